/- A part of the proof of the law FnExactReplay: texts of this seat, merged (words, printed functions of the program, plain lemmas). Conditions: none of its own. -/
import Derived.Test.YtmljebgideecjaaGreatP2kFnExactReplay6
set_option linter.unusedSimpArgs false
set_option linter.unusedVariables false
set_option maxHeartbeats 8000000
set_option maxRecDepth 100000
namespace Go.Proofs.YtmljebgideecjaaGreatZ
open Go.RowKit Go.Proofs.YtmljebgideecjaaGreatW.PrintWords Go.Proofs.YtmljebgideecjaaGreatW.PrintLast Go.Proofs.YtmljebgideecjaaGreatW.PrintMore
abbrev fr (W:World):World→Prop:=fun w'=>Below W.heap.size W w'
theorem fr_cell {W w':World} (h:fr W w') (a:Addr) (hs:(W.cell? a).isSome=true):w'.cell? a=W.cell? a:=by
 obtain⟨v,hv⟩:=Option.isSome_iff_exists.mp hs
 rw[hv]
 exact bc h hv
theorem bDN {w W:World} (h:Below w.heap.size w W) (n:Nat):Below w.heap.size w (W.drewN n):=pw_below_drewN h n
section
variable {P:Program} {ops:Array Oper} {Q:Exit→Act→World→Prop} {md:Region.Mode} {ds:List Nat} {T:Bool × List (List Nat × List Nat)} {B:List Nat} {oi:Oper} {v:Value} {fuel n k N:Nat} {a a':Act} {w W:World}
theorem sR0 {id:Nat} (n:Nat) (hT:rtab .any ops=T) (hB:waitsOk T.2 B=true) (h:Aside0 (rtab .any ops=T)→Aside0 (waitsOk T.2 B=true)→fr w w.drew→wpAnyLast P .any ops Q (fr w) [] n (bm n 0) a w.drew)
  (hm:P.follows .mixedOrders=true:=by kernel_rfl) (hn:ops.size=n:=by rfl) (hl:Array.replicate n false=bm n 0:=by kernel_rfl):(Code.region id ops true).wp P Q a w :=
 start_ (S:=fr w) (bm n 0) hm hn hl (below_drew1 (Below.refl _ _)) (h ⟨hT⟩ ⟨hB⟩)
theorem zA (i:Nat) (h:wpAnyLast P md ops Q (fr W) ds fuel (bm n (k+2 ^ i)) a' w) (hT:rtab md ops=T:=by exact HT_.out) (hi:ops[i]? = some oi:=by rfl) (hN:oi.dst=some N:=by rfl) (hc:anyT T (bm n k).toList (bm n (k+2 ^ i)).toList i=true:=by kernel_rfl)
  (hQ:∀ c a w,Q (.panic c) (a.put oi.dst v) w→Q (.panic c) a w:=by exact fun _ _ _ h=>h) (hy:Yields P ops oi v a:=by refine Or.inl ⟨by rfl,?_⟩;intro w';go_simp;with_reducible rfl)
  (ha:a.put (some N) v=a':=by simp only[Act.put,List.setIfInBounds_toArray,List.set_cons_zero,List.set_cons_succ,i64_w,i32_w];rfl):wpAnyLast P md ops Q (fr W) ds (fuel+1) (bm n k) a w:=pZ i N _ hT h hi hN hc hQ hy ha
theorem uA (i:Nat) (h:wpAnyLast P md ops Q (fr W) ds fuel (bm n (k+2 ^ i)) a' w) (hT:rtab md ops=T:=by exact HT_.out) (hi:ops[i]? = some oi:=by rfl) (hN:oi.dst=some N:=by rfl) (hc:anyT T (bm n k).toList (bm n (k+2 ^ i)).toList i=true:=by kernel_rfl)
  (hQ:∀ c a w,Q (.panic c) (a.put oi.dst undef) w→Q (.panic c) a w:=by exact fun _ _ _ h=>h) (hy:Yields P ops oi undef a:=by exact Or.inr ⟨by rfl,rfl⟩)
  (ha:a.put (some N) undef=a':=by simp only[Act.put,List.setIfInBounds_toArray,List.set_cons_zero,List.set_cons_succ,i64_w,i32_w];rfl):wpAnyLast P md ops Q (fr W) ds (fuel+1) (bm n k) a w:=pU i N _ hT h hi hN hc hQ hy ha
theorem tA (i:Nat) (h:wpAnyLast P md ops Q (fr W) ds fuel (bm n (k+2 ^ i)) a' w) (hT:rtab md ops=T:=by exact HT_.out) (hB:waitsOk T.2 B=true:=by exact HW_.out) (hS:fr W w:=by exact hHeld) (hi:ops[i]? = some oi:=by rfl) (hN:oi.dst=some N:=by rfl) (hc:takeW T B ds (bm n k).toList (bm n (k+2 ^ i)).toList i=true:=by kernel_rfl)
  (hQ:∀ c a w,Q (.panic c) (a.put oi.dst v) w→Q (.panic c) a w:=by exact fun _ _ _ h=>h) (hy:YieldsIf P ops (fr W) oi v a:=by refine Or.inl ⟨by rfl,?_⟩;intro w' hs_;have hF_:=fr_cell hs_;clear hs_;go_simp;with_reducible rfl)
  (ha:a.put (some N) v=a':=by simp only[Act.put,List.setIfInBounds_toArray,List.set_cons_zero,List.set_cons_succ,i64_w,i32_w];rfl):wpAnyLast P md ops Q (fr W) ds (fuel+1) (bm n k) a w:=tZ i N _ hT hB hS h hi hN hc hQ hy ha
theorem oA (i:Nat) (h:∀ K:Act→World→Prop,Shut (∀ a' w',fr W w'→(fr W w'→wpAnyLast P md ops Q (fr W) ds fuel (bm n (k+2 ^ i)) a' w')→K a' w')→if Region.wanted oi (yielded ops a.tmps)=true then Oper.wp P oi a w K Q else K (a.put (some N) undef) w)
  (hT:rtab md ops=T:=by exact HT_.out) (hi:ops[i]? = some oi:=by rfl) (hN:oi.dst=some N:=by rfl) (hc:(readyT T.2 (bm n k).toList == [i] && (bm n k).toList.set i true == (bm n (k+2 ^ i)).toList)=true:=by kernel_rfl) (hd:i ∉ ds:=by decide):wpAnyLast P md ops Q (fr W) ds (fuel+1) (bm n k) a w:=oZ i (some N) _ hT h hi hN hc hd
variable {f:FuncId} {fn:Func} {as_:Array Operand} {ts:Array TypeId} {args:Array Value}
theorem eB (i:Nat) (hf:P.funcs[f]? = some fn) (c:Calls P f args w fun e w'=>e = .returned v∧Below w.heap.size w w') (h:∀ w',Below w.heap.size w w'→fr W w'→wpAnyLast P md ops Q (fr W) ds fuel (bm n (k+2 ^ i)) a' w')
  (hS:fr W w:=by exact hHeld) (hT:rtab md ops=T:=by exact HT_.out) (hi:ops[i]? = some oi:=by rfl) (hN:oi.dst=some N:=by rfl) (hc:(readyT T.2 (bm n k).toList == [i] && (bm n k).toList.set i true == (bm n (k+2 ^ i)).toList)=true:=by kernel_rfl) (hd:i ∉ ds:=by decide)
  (hname:(fn.name == "runtime.NumGoroutine")=false:=by kernel_rfl) (hb:fn.body.isSome=true:=by rfl) (hw:Region.wanted oi (yielded ops a.tmps)=true:=by rfl) (hop:oi.op = .call { callee:=.value (.func f),args:=as_,argTypes:=ts }:=by rfl)
  (hargs:as_.map a.eval=args:=by (try simp only[List.map_toArray,List.map_cons,List.map_nil]);first | done | rfl | (simp only[List.length_drop,List.length_take];rfl))
  (ha:a.put (some N) v=a':=by simp only[Act.put,List.setIfInBounds_toArray,List.set_cons_zero,List.set_cons_succ,i64_w,i32_w];rfl):wpAnyLast P md ops Q (fr W) ds (fuel+1) (bm n k) a w:=by
 subst ha
 exact oZ i (some N) _ hT (fun K hK=>goes_ hf hname hb args hw hN hop hargs (c.mono fun _ w' ⟨he,hb'⟩=>⟨v,he,hK.out _ _ (below_step hS hb') (fun s=>h w' hb' s)⟩)) hi hN hc hd
theorem eD (i:Nat) (hf:P.funcs[f]? = some fn) (c:Calls P f args w fun e w'=>e = .returned v∧Drawn0 w w') (h:∀ n_,fr W (w.drewN n_)→wpAnyLast P md ops Q (fr W) ds fuel (bm n (k+2 ^ i)) a' (w.drewN n_))
  (hS:fr W w:=by exact hHeld) (hT:rtab md ops=T:=by exact HT_.out) (hi:ops[i]? = some oi:=by rfl) (hN:oi.dst=some N:=by rfl) (hc:(readyT T.2 (bm n k).toList == [i] && (bm n k).toList.set i true == (bm n (k+2 ^ i)).toList)=true:=by kernel_rfl) (hd:i ∉ ds:=by decide)
  (hname:(fn.name == "runtime.NumGoroutine")=false:=by kernel_rfl) (hb:fn.body.isSome=true:=by rfl) (hw:Region.wanted oi (yielded ops a.tmps)=true:=by rfl) (hop:oi.op = .call { callee:=.value (.func f),args:=as_,argTypes:=ts }:=by rfl)
  (hargs:as_.map a.eval=args:=by (try simp only[List.map_toArray,List.map_cons,List.map_nil]);first | done | rfl | (simp only[List.length_drop,List.length_take];rfl))
  (ha:a.put (some N) v=a':=by simp only[Act.put,List.setIfInBounds_toArray,List.set_cons_zero,List.set_cons_succ,i64_w,i32_w];rfl):wpAnyLast P md ops Q (fr W) ds (fuel+1) (bm n k) a w:=by
 subst ha
 exact oZ i (some N) _ hT (fun K hK=>goes_ hf hname hb args hw hN hop hargs (c.mono fun _ _ ⟨he,hb'⟩=>by
  obtain⟨n_,rfl⟩:=hb'
  exact⟨v,he,hK.out _ _ (bDN hS n_) (fun s=>h n_ s)⟩)) hi hN hc hd
theorem dA (h:Q .normal a w) (hT:rtab md ops=T:=by exact HT_.out) (hr:(readyT T.2 (bm n k).toList == [])=true:=by kernel_rfl):wpAnyLast P md ops Q (fr W) ds fuel (bm n k) a w:=done_ (done_of hT hr) h
end
section
variable {P:Program} {ops:Array Oper} {rest:List Oper} {o:Oper} {a:Act} {Q:Exit→Act→World→Prop} {W:World} {fn:Func} {as_:Array Operand} {ts:Array TypeId} {args:Array Value} {v:Value}
theorem gB (f:FuncId) (N:Tmp) (hf:P.funcs[f]? = some fn) (c:Calls P f args W fun e w'=>e = .returned v∧Below W.heap.size W w') (h:∀ w',Below W.heap.size W w'→wpList P ops Q rest (a.put (some N) v) w')
  (hop:o.op = .call { callee:=.value (.func f),args:=as_,argTypes:=ts }:=by with_reducible rfl) (hd:o.dst=some N:=by rfl) (hg:o.guard=none:=by rfl)
  (hname:(fn.name == "runtime.NumGoroutine")=false:=by kernel_rfl) (hb:fn.body.isSome=true:=by rfl)
  (hargs:as_.map a.eval=args:=by (try simp only[List.map_toArray,List.map_cons,List.map_nil]);first | done | rfl | (simp only[List.length_drop,List.length_take];rfl)):wpList P ops Q (o :: rest) a W :=
 goesL_ (some N) hd hg hf hname hb args hop hargs (c.mono fun _ w' ⟨he,hb'⟩=>⟨v,he,h w' hb'⟩)
theorem gD (f:FuncId) (N:Tmp) (hf:P.funcs[f]? = some fn) (c:Calls P f args W fun e w'=>e = .returned v∧Drawn0 W w') (h:∀ n_,wpList P ops Q rest (a.put (some N) v) (W.drewN n_))
  (hop:o.op = .call { callee:=.value (.func f),args:=as_,argTypes:=ts }:=by with_reducible rfl) (hd:o.dst=some N:=by rfl) (hg:o.guard=none:=by rfl)
  (hname:(fn.name == "runtime.NumGoroutine")=false:=by kernel_rfl) (hb:fn.body.isSome=true:=by rfl)
  (hargs:as_.map a.eval=args:=by (try simp only[List.map_toArray,List.map_cons,List.map_nil]);first | done | rfl | (simp only[List.length_drop,List.length_take];rfl)):wpList P ops Q (o :: rest) a W :=
 goesL_ (some N) hd hg hf hname hb args hop hargs (c.mono fun _ _ ⟨he,hb'⟩=>by
  obtain⟨n_,rfl⟩:=hb'
  exact⟨v,he,h n_⟩)
end
section
variable {w:World} {g:Nat} {t:TypeId}
theorem cV2 {a0 a1:Value} (h:w.heap[g]? = some (.cells #[a0,a1] t (0,0))):w.cell? ⟨g,0,none⟩=some a0∧w.cell? ⟨g,1,none⟩=some a1:=⟨blk_cell h 0,blk_cell h 1⟩
theorem cV3 {a0 a1 a2:Value} (h:w.heap[g]? = some (.cells #[a0,a1,a2] t (0,0))):w.cell? ⟨g,0,none⟩=some a0∧w.cell? ⟨g,1,none⟩=some a1∧w.cell? ⟨g,2,none⟩=some a2:=⟨blk_cell h 0,blk_cell h 1,blk_cell h 2⟩
theorem cV5 {a0 a1 a2 a3 a4:Value} (h:w.heap[g]? = some (.cells #[a0,a1,a2,a3,a4] t (0,0))):w.cell? ⟨g,0,none⟩=some a0∧w.cell? ⟨g,1,none⟩=some a1∧w.cell? ⟨g,2,none⟩=some a2∧w.cell? ⟨g,3,none⟩=some a3∧w.cell? ⟨g,4,none⟩=some a4:=⟨blk_cell h 0,blk_cell h 1,blk_cell h 2,blk_cell h 3,blk_cell h 4⟩
theorem cV8 {a0 a1 a2 a3 a4 a5 a6 a7:Value} (h:w.heap[g]? = some (.cells #[a0,a1,a2,a3,a4,a5,a6,a7] t (0,0))):w.cell? ⟨g,0,none⟩=some a0∧w.cell? ⟨g,1,none⟩=some a1∧w.cell? ⟨g,2,none⟩=some a2∧w.cell? ⟨g,3,none⟩=some a3∧w.cell? ⟨g,4,none⟩=some a4∧w.cell? ⟨g,5,none⟩=some a5∧w.cell? ⟨g,6,none⟩=some a6∧w.cell? ⟨g,7,none⟩=some a7:=⟨blk_cell h 0,blk_cell h 1,blk_cell h 2,blk_cell h 3,blk_cell h 4,blk_cell h 5,blk_cell h 6,blk_cell h 7⟩
end
theorem at_ic {w w':World} {A:Option Addr} {n:Nat} {k:IntKind} {xs:List Int} (h:Aside0 ((Kd.int k).C w A n xs)) (b:Aside0 (Below w.heap.size w w')) (i:Int) (h0:0≤i:=by exact odA) (h1:i<n:=by exact odA):∃ ad,A=some ad∧(0≤i)=True∧(i<n)=True∧w'.cell? (ad.add i.toNat)=some (.int k (rd xs i)):=by
 obtain⟨ad,e,c⟩:=at_ib h.out b.out i h0 h1
 exact⟨ad,e,eq_true h0,eq_true h1,c⟩
section
variable {α:Type} {p:Prop} [Decidable p] {A B:Option α} {r:α} {g:Prop}
theorem iN (hn:decide p=false→B=some r→g) (hp:decide p=true→A=some r→g):(if p then A else B)=some r→g:=by
 intro h
 by_cases c:p
 ·rw[if_pos c] at h;exact hp (decide_eq_true c) h
 ·rw[if_neg c] at h;exact hn (decide_eq_false c) h
theorem iP (hp:decide p=true→A=some r→g) (hn:decide p=false→B=some r→g):(if p then A else B)=some r→g:=iN hn hp
theorem ifQ (h:(if p then A else none)=some r):decide p=true∧A=some r:=by
 by_cases c:p
 ·rw[if_pos c] at h;exact⟨decide_eq_true c,h⟩
 ·rw[if_neg c] at h;cases h
end
section
variable {α β:Type} [DecidableEq β] {a b:β} {A B:Option α} {r:α} {g:Prop}
theorem eN (hn:(a == b)=false→(a != b)=true→B=some r→g) (hp:(a == b)=true→(a != b)=false→A=some r→g):(if a=b then A else B)=some r→g:=by
 intro h
 by_cases c:a=b
 ·rw[if_pos c] at h;exact hp (beq_iff_eq.mpr c) (by rw[bne_eq_false_iff_eq];exact c) h
 ·rw[if_neg c] at h;exact hn (beq_eq_false_iff_ne.mpr c) (by rw[bne_iff_ne];exact c) h
theorem eP (hp:(a == b)=true→(a != b)=false→A=some r→g) (hn:(a == b)=false→(a != b)=true→B=some r→g):(if a=b then A else B)=some r→g:=eN hn hp
end
theorem fR {g:Prop} (f:g:=by obtain rfl:=sI H;go_wp2;go_ret;exact⟨rE,(hX HB.out)⟩):g:=f
theorem fS {g:Prop} (f:g:=by go_wp2;go_ret;exact⟨rE,(hX HB.out)⟩):g:=f
end Go.Proofs.YtmljebgideecjaaGreatZ
