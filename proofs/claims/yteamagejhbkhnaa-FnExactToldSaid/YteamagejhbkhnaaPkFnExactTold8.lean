/- A part of the proof of the law FnExactTold: texts of this seat, merged (words, printed functions of the program, plain lemmas). Conditions: none of its own. -/
import Derived.Test.YteamagejhbkhnaaChecked
import Derived.Test.YteamagejhbkhnaaPkFnExactTold5
import Derived.Test.YteamagejhbkhnaaPkFnExactTold6
set_option linter.unusedSimpArgs false
set_option linter.unusedVariables false
set_option maxHeartbeats 8000000
set_option maxRecDepth 100000
namespace Go.Proofs.Yteamagejhbkhnaa.P
open Go.Proofs.YteamagejhbkhnaaZ Go.RowKit Go.Proofs.YteamagejhbkhnaaW.PrintWords Go.Proofs.YteamagejhbkhnaaW.PrintLast Go.Proofs.YteamagejhbkhnaaW.PrintMore
attribute [local go_sem] max2_int min2_int max_two min_two max_three min_three max_four min_four   -- for this text's walks alone
def Xap.f (a0_0:Int) (a0_1:Int) (a0_2:Int) (a0_3:Int):Option (Int × Int × Int × Int):=some (a0_0,a0_1,a0_2,a0_3)
theorem Xap.calls (a0_0:Int) (a0_1:Int) (a0_2:Int) (a0_3:Int) (r1:Int) (r2:Int) (r3:Int) (r4:Int) (w:World) (h:Xap.f a0_0 a0_1 a0_2 a0_3=some (r1,r2,r3,r4)) :
  Calls Try.prog 181 #[.agg #[.int .i64 a0_0,.int .i64 a0_1,.int .i64 a0_2,.int .i64 a0_3]] w fun e w'=>e = .returned (.agg #[.int .i64 r1,.int .i64 r2,.int .i64 r3,.int .i64 r4])∧Below w.heap.size w w':=by
 have hu195:=Try.underlying195
 have hu189:=Try.underlying189
 have HB:=Aside0.mk (Below.refl w.heap.size w)
 have H:=h
 unfold Xap.f at H
 clear h
 simp only[Option.some.injEq,Prod.mk.injEq] at H
 obtain⟨rfl,rfl,rfl,rfl⟩:=H
 go_enter Try.func181,Try.ntmps181
 go_wp2_with (first | ((with_reducible refine gate_dst (N:=1) rfl ?_);refine boxE 1 #[.int .i64 a0_0,.int .i64 a0_1,.int .i64 a0_2,.int .i64 a0_3] 195 ?_;intro gbz1 hg wz1 hbox hb;have BKz1:=Aside0.mk (hbox);have GWz1:=Aside0.mk (gX' hg (hX HB.out));have GEz1:=Aside0.mk (gX' hg (hX HB.out));replace HB:=Aside0.mk (below_step (hX HB.out) hb);clear hb hbox hg) | ((with_reducible refine gate_dst (N:=2) rfl ?_);refine boxE 2 #[.int .i64 0,.int .i64 0,.int .i64 0,.int .i64 0] 189 ?_;intro gbz2 hg wz2 hbox hb;have BKz2:=Aside0.mk (hbox);have GWz2:=Aside0.mk (gX' hg (hX HB.out));have GEz2:=Aside0.mk (gX' hg (hX HB.out));have NBz1:=Aside0.mk (gL hg (bX BKz1.out));have NBz2:=Aside0.mk (gG hg (bX BKz1.out));replace BKz1:=Aside0.mk (blk_below (bX BKz1.out) hb);replace HB:=Aside0.mk (below_step (hX HB.out) hb);clear hb hbox hg) | ((with_reducible refine gate_dst (N:=3) rfl ?_);refine boxE 3 #[.int .i64 0,.int .i64 0,.int .i64 0,.int .i64 0] 189 ?_;intro gbz3 hg wz3 hbox hb;have BKz3:=Aside0.mk (hbox);have GWz3:=Aside0.mk (gX' hg (hX HB.out));have GEz3:=Aside0.mk (gX' hg (hX HB.out));have NBz3:=Aside0.mk (gL hg (bX BKz1.out));have NBz4:=Aside0.mk (gG hg (bX BKz1.out));have NBz5:=Aside0.mk (gL hg (bX BKz2.out));have NBz6:=Aside0.mk (gG hg (bX BKz2.out));replace BKz1:=Aside0.mk (blk_below (bX BKz1.out) hb);replace BKz2:=Aside0.mk (blk_below (bX BKz2.out) hb);replace HB:=Aside0.mk (below_step (hX HB.out) hb);clear hb hbox hg;have hnbz1:=NBz1.out;have hncz1:=NBz2.out;have hnbz2:=NBz3.out;have hncz2:=NBz4.out;obtain⟨hczz1,hczz2,hczz3,hczz4,hfzz1,hfzz2,hfzz3,hfzz4⟩:=cZ4 BKz1.out;have hnbz3:=NBz6.out;have hncz3:=NBz5.out;obtain⟨hczz5,hczz6,hczz7,hczz8,hfzz5,hfzz6,hfzz7,hfzz8⟩:=cZ4 BKz3.out;obtain⟨hczz9,hczz10,hczz11,hczz12,hfzz9,hfzz10,hfzz11,hfzz12⟩:=cZ4 BKz2.out))
 refine bodyPost_ret (results_cell_row rfl _ _ gbz2 189 #[.int .i64 a0_0,.int .i64 a0_1,.int .i64 a0_2,.int .i64 a0_3] (0,0) _ rfl (bP BKz2.out) Try.underlying189 rfl (by kernel_rfl)) rfl ?_
 exact⟨rE,(hX HB.out)⟩
end Go.Proofs.Yteamagejhbkhnaa.P
namespace Go.Proofs.YteamagejhbkhnaaZ
open Go.RowKit Go.Proofs.YteamagejhbkhnaaW.PrintWords Go.Proofs.YteamagejhbkhnaaW.PrintLast Go.Proofs.YteamagejhbkhnaaW.PrintMore
theorem rF {α : Type} {d : Kd α} {e : Nat} {w w' : World} {base : Nat} {ok : Nat → Prop} {v : Value} {xs : List α} {g t : Nat} {cs : Array Value} (h : d.R e w base ok v xs) (b : w.heap[g]? = some (.cells cs t (0, 0))) (ht : ∀ q, q ∈ e :: d.E → q ≠ t := by decide)
    (f : d.R e w base (fun k => ok k ∧ k ≠ g) v xs → d.R e w' base (fun k => ok k ∧ k ≠ g) v xs := by intro h_; (with_reducible repeat (first | apply Kd.R_alloc | apply Kd.R_drewN | apply Kd.R_drew)); repeat (first | with_reducible exact h_ | refine Kd.R_far ?_ (fun _ hk => hk.2) _)) : d.R e w' base ok v xs := Kd.R_mono (f (Kd.R_types h b ht)) (fun _ h_ => h_.1)
theorem sF {α : Type} {d : Kd α} {e : Nat} {w w' : World} {base : Nat} {ok : Nat → Prop} {v : Value} {xs : List α} {g t : Nat} {cs : Array Value} (h : Kd.S d e w base ok v xs) (b : w.heap[g]? = some (.cells cs t (0, 0))) (ht : ∀ q, q ∈ e :: d.E → q ≠ t := by decide)
    (f : Kd.S d e w base (fun k => ok k ∧ k ≠ g) v xs → Kd.S d e w' base (fun k => ok k ∧ k ≠ g) v xs := by intro h_; (with_reducible repeat (first | apply Kd.S_alloc | apply Kd.S_drewN | apply Kd.S_drew)); repeat (first | with_reducible exact h_ | refine Kd.S_far ?_ (fun _ hk => hk.2) _)) : Kd.S d e w' base ok v xs := Kd.S_mono (f (Kd.S_types h b ht)) (fun _ h_ => h_.1)
theorem rR {α : Type} {d : Kd α} {e : Nat} {w w' : World} {base : Nat} {ok : Nat → Prop} {A : Option Addr} {n c : Nat} {xs : List α} {g t : Nat} {cs : Array Value} (h : d.R e w base ok (.slice A n c) xs) (b : w.heap[g]? = some (.cells cs t (0, 0))) (ht : ∀ q, q ∈ e :: d.E → q ≠ t := by decide)
    (f : d.R e w base (fun k => ok k ∧ k ≠ g) (.slice A n c) xs → d.R e w' base (fun k => ok k ∧ k ≠ g) (.slice A n c) xs := by intro h_; (with_reducible repeat (first | apply Kd.R_alloc | apply Kd.R_drewN | apply Kd.R_drew)); repeat (first | with_reducible exact h_ | refine Kd.R_far ?_ (fun _ hk => hk.2) _)) : d.C w' A xs.length xs := (Kd.R_reads' (rF h b ht f)).2.2
theorem sR {α : Type} {d : Kd α} {e : Nat} {w w' : World} {base : Nat} {ok : Nat → Prop} {A : Option Addr} {n c : Nat} {xs : List α} {g t : Nat} {cs : Array Value} (h : Kd.S d e w base ok (.slice A n c) xs) (b : w.heap[g]? = some (.cells cs t (0, 0))) (ht : ∀ q, q ∈ e :: d.E → q ≠ t := by decide)
    (f : Kd.S d e w base (fun k => ok k ∧ k ≠ g) (.slice A n c) xs → Kd.S d e w' base (fun k => ok k ∧ k ≠ g) (.slice A n c) xs := by intro h_; (with_reducible repeat (first | apply Kd.S_alloc | apply Kd.S_drewN | apply Kd.S_drew)); repeat (first | with_reducible exact h_ | refine Kd.S_far ?_ (fun _ hk => hk.2) _)) : d.C w' A xs.length xs := (Kd.S_reads' (sF h b ht f)).2.2
theorem aM {p : Prop} (h : p) : Aside0 p := ⟨h⟩
theorem aS {w W0 W W1 : World} (h : Aside0 (Below w.heap.size w W0)) (b : Below W.heap.size W W1) (f : Below w.heap.size w W0 → Below w.heap.size w W := by intro h_; repeat (first | (with_reducible first | exact h_ | apply below_alloc | apply pw_below_drewN | apply below_drew1 | refine below_set ?_ (Aside0.out (by assumption))) | exact h_)) : Aside0 (Below w.heap.size w W1) := ⟨below_step (f h.out) b⟩
theorem aB {w0 w W : World} {g : Nat} {t : TypeId} {cs : Array Value} (h : Aside0 (w0.heap[g]? = some (.cells cs t (0, 0)))) (b : Below w.heap.size w W) (f : w0.heap[g]? = some (.cells cs t (0, 0)) → w.heap[g]? = some (.cells cs t (0, 0)) := by intro h_; (with_reducible repeat (first | refine blk_drewN ?_ _ | refine blk_drew ?_ | refine blk_alloc ?_ _)); exact h_) : Aside0 (W.heap[g]? = some (.cells cs t (0, 0))) := ⟨blk_below (f h.out) b⟩
theorem aF {w0 w W : World} {g : Nat} {t : TypeId} {cs : Array Value} (h : Aside0 (w0.heap[g]? = some (.cells cs t (0, 0)))) (b : Below w.heap.size w W) (f : w0.heap[g]? = some (.cells cs t (0, 0)) → w.heap[g]? = some (.cells cs t (0, 0)) := by intro h_; apply Eq.trans; (case h₁ => with_reducible repeat (first | exact h_ | apply blk_drewN | apply blk_drew | apply blk_alloc | (apply far_; exact Aside0.out (by assumption)) | apply blk_set)); rfl) : Aside0 (W.heap[g]? = some (.cells cs t (0, 0))) := ⟨blk_below (f h.out) b⟩
theorem aG {g : Nat} {w W0 W : World} (hg : g = W.heap.size) (h : Aside0 (Below w.heap.size w W0)) (f : Below w.heap.size w W0 → Below w.heap.size w W := by intro h_; repeat (first | (with_reducible first | exact h_ | apply below_alloc | apply pw_below_drewN | apply below_drew1 | refine below_set ?_ (Aside0.out (by assumption))) | exact h_)) : Aside0 (w.heap.size ≤ g) := ⟨gX' hg (f h.out)⟩
theorem aL {g g' : Nat} {w0 W : World} {t : TypeId} {cs : Array Value} (hg : g' = W.heap.size) (h : Aside0 (w0.heap[g]? = some (.cells cs t (0, 0)))) (f : w0.heap[g]? = some (.cells cs t (0, 0)) → W.heap[g]? = some (.cells cs t (0, 0)) := by intro h_; (with_reducible repeat (first | refine blk_drewN ?_ _ | refine blk_drew ?_ | refine blk_alloc ?_ _)); exact h_) : Aside0 (g ≠ g') := ⟨gL hg (f h.out)⟩
theorem aR {g g' : Nat} {w0 W : World} {t : TypeId} {cs : Array Value} (hg : g' = W.heap.size) (h : Aside0 (w0.heap[g]? = some (.cells cs t (0, 0)))) (f : w0.heap[g]? = some (.cells cs t (0, 0)) → W.heap[g]? = some (.cells cs t (0, 0)) := by intro h_; (with_reducible repeat (first | refine blk_drewN ?_ _ | refine blk_drew ?_ | refine blk_alloc ?_ _)); exact h_) : Aside0 (g' ≠ g) := ⟨gG hg (f h.out)⟩
theorem aQ {α : Type} {d : Kd α} {e : Nat} {w0 w W : World} {base : Nat} {ok : Nat → Prop} {v : Value} {xs : List α} (h : Aside0 (d.R e w0 base ok v xs)) (b : Below w.heap.size w W) (f : d.R e w0 base ok v xs → d.R e w base ok v xs := by intro h_; (with_reducible repeat (first | apply Kd.R_alloc | apply Kd.R_drewN | apply Kd.R_drew)); exact h_) : Aside0 (d.R e W base ok v xs) := ⟨Kd.R_below (f h.out) b⟩
theorem aT {α : Type} {d : Kd α} {e : Nat} {w0 w W : World} {base : Nat} {ok : Nat → Prop} {v : Value} {xs : List α} (h : Aside0 (Kd.S d e w0 base ok v xs)) (b : Below w.heap.size w W) (f : Kd.S d e w0 base ok v xs → Kd.S d e w base ok v xs := by intro h_; (with_reducible repeat (first | apply Kd.S_alloc | apply Kd.S_drewN | apply Kd.S_drew)); exact h_) : Aside0 (Kd.S d e W base ok v xs) := ⟨Kd.S_below (f h.out) b⟩
section
variable {P : Program} {ops : Array Oper} {rest : List Oper} {o : Oper} {a : Act} {Q : Exit → Act → World → Prop} {W : World}
end
end Go.Proofs.YteamagejhbkhnaaZ
namespace Go.Proofs.Yteamagejhbkhnaa.P
open Go.Proofs.YteamagejhbkhnaaZ Go.RowKit Go.Proofs.YteamagejhbkhnaaW.PrintWords Go.Proofs.YteamagejhbkhnaaW.PrintLast Go.Proofs.YteamagejhbkhnaaW.PrintMore
attribute [local go_sem] max2_int min2_int max_two min_two max_three min_three max_four min_four   -- for this text's walks alone
def X9.f (a0_0:Int) (a0_1:Int) (a0_2:Int) (a0_3:Int) (a0_4:Int) (a0_5:Int) (a0_6:Int) (a0_7:Int) (l0_8:List Int):Option (Bool):=if a0_6 ≥ 0 then (some true) else (some (decide (a0_5 ≥ 0)))
theorem X9.calls (a0_0:Int) (a0_1:Int) (a0_2:Int) (a0_3:Int) (a0_4:Int) (a0_5:Int) (a0_6:Int) (a0_7:Int) (A0_8:Option Addr) (c0_8:Nat) (l0_8:List Int) (r:Bool) (w:World) (hr0_8:Kd.C (Kd.int .i64) w A0_8 l0_8.length l0_8) (hc0_8:l0_8.length≤c0_8) (h:X9.f a0_0 a0_1 a0_2 a0_3 a0_4 a0_5 a0_6 a0_7 l0_8=some r) :
  Calls Try.prog 114 #[.agg #[.int .i64 a0_0,.int .i64 a0_1,.int .i64 a0_2,.int .i64 a0_3,.int .i64 a0_4,.int .i64 a0_5,.int .i64 a0_6,.int .i64 a0_7,.slice A0_8 l0_8.length c0_8]] w fun e w'=>e = .returned (.bool r)∧Below w.heap.size w w':=by
 have hu59:=Try.underlying59
 have HR0_8:=Aside0.mk hr0_8
 have HC0_8:=Aside0.mk hc0_8
 clear hr0_8 hc0_8
 have HB:=Aside0.mk (Below.refl w.heap.size w)
 have H:=h
 unfold X9.f at H
 clear h
 go_enter Try.func114,Try.ntmps114
 go_wp2_with (first | (refine boxE 1 #[.int .i64 a0_0,.int .i64 a0_1,.int .i64 a0_2,.int .i64 a0_3,.int .i64 a0_4,.int .i64 a0_5,.int .i64 a0_6,.int .i64 a0_7,.slice A0_8 l0_8.length c0_8] 59 ?_;intro gbz1 hg wz1 hbox hb;have BKz1:=Aside0.mk (hbox);have GWz1:=Aside0.mk (gX' hg (hX HB.out));have GEz1:=Aside0.mk (gX' hg (hX HB.out));replace HB:=Aside0.mk (below_step (hX HB.out) hb);clear hb hbox hg;obtain⟨hczz1,hczz2,hczz3,hczz4,hczz5,hczz6,hczz7,hczz8,hczz9,hfzz1,hfzz2,hfzz3,hfzz4,hfzz5,hfzz6,hfzz7,hfzz8,hfzz9⟩:=cZ9 BKz1.out;refine Stop.out ?_))
 refine⟨?_⟩
 by_cases c2:a0_6 ≥ 0
 ·rw[if_pos c2] at H
  have c2b0:=decide_eq_true c2
  clear c2
  obtain rfl:=Option.some.inj H
  go_wp2
  go_ret
  exact⟨rE,(hX HB.out)⟩
 ·rw[if_neg c2] at H
  have c2b0:=decide_eq_false c2
  clear c2
  obtain rfl:=Option.some.inj H
  go_wp2
  go_ret
  exact⟨rE,(hX HB.out)⟩
def slices_Clone_int_int.f (l0:List Int):Option (List Int):=if l0.length≤17592186044416 then some l0 else none
theorem slices_Clone_int_int.calls (A0:Option Addr) (c0:Nat) (l0:List Int) (r:List Int) (w:World) (hr0:Kd.C (Kd.int .i64) w A0 l0.length l0) (hc0:l0.length≤c0) (h:slices_Clone_int_int.f l0=some r) :
  Calls Try.prog 75 #[.slice A0 l0.length c0] w fun e w'=>∃ v0_:Value,e = .returned (v0_)∧Kd.R (Kd.int .i64) 3 w' w.heap.size (fun _=>True) v0_ r∧Below w.heap.size w w':=by
 unfold slices_Clone_int_int.f at h
 split at h
 ·rename_i hlen
  obtain rfl:=Option.some.inj h
  cases l0 with
  | nil =>
   cases A0 with
   | none=>exact(Go.Proofs.Try.slices_Clone_int_nil 0 c0 w).mono fun e w' ⟨he,hw⟩=>⟨_,he,Kd.R_nil _ _ _ _ _,hw ▸ Below.refl _ _⟩
   | some a=>exact(Go.Proofs.Try.slices_Clone_int_zero a c0 w).mono fun e w' ⟨v,he,ho,_,hb⟩=>⟨v,he,Kd.R_of_own ho (fun _ _=>trivial),hb⟩
  | cons x xs =>
   obtain⟨b,o,rfl,hb,hcell⟩:=Go.Proofs.YteamagejhbkhnaaZ.C_plain hr0 (by simp)
   refine(Go.Proofs.Try.slices_Clone_int b o (x :: xs).length c0 (x :: xs) w (Nat.le_refl _) (by omega) (fun j hj => ?_)).mono fun e w' ⟨v,he,ho,_,hb⟩=>⟨v,he,Kd.R_of_own (by rw[List.take_length] at ho;exact ho) (fun _ _=>trivial),hb⟩
   have:=hcell j ((x :: xs)[j]'hj) (List.getElem?_eq_getElem hj)
   rw[this,List.getD_eq_getElem?_getD,List.getElem?_eq_getElem hj]
   rfl
 ·simp at h
def Xad.f (a0_0:Int) (a0_1:Int) (a0_2:Int) (a1_0:Int) (a1_1:Int) (a1_2:Int):Option (Bool):=if a0_0=a1_0 then (if a0_1=a1_1 then (if a0_2=a1_2 then (some true) else (some false)) else (some false)) else (some false)
theorem Xad.calls (a0_0:Int) (a0_1:Int) (a0_2:Int) (a1_0:Int) (a1_1:Int) (a1_2:Int) (r:Bool) (w:World) (h:Xad.f a0_0 a0_1 a0_2 a1_0 a1_1 a1_2=some r) :
  Calls Try.prog 169 #[.agg #[.int .i64 a0_0,.int .i64 a0_1,.int .i64 a0_2],.agg #[.int .i64 a1_0,.int .i64 a1_1,.int .i64 a1_2]] w fun e w'=>e = .returned (.bool r)∧Below w.heap.size w w':=by
 have hu170:=Try.underlying170
 have HB:=Aside0.mk (Below.refl w.heap.size w)
 have H:=h
 unfold Xad.f at H
 clear h
 go_enter Try.func169,Try.ntmps169
 go_wp2_with (first | ((with_reducible refine gate_dst (N:=2) rfl ?_);refine boxE 2 #[.int .i64 a0_0,.int .i64 a0_1,.int .i64 a0_2] 170 ?_;intro gbz1 hg wz1 hbox hb;have BKz1:=Aside0.mk (hbox);have GWz1:=Aside0.mk (gX' hg (hX HB.out));have GEz1:=Aside0.mk (gX' hg (hX HB.out));replace HB:=Aside0.mk (below_step (hX HB.out) hb);clear hb hbox hg) | ((with_reducible refine gate_dst (N:=3) rfl ?_);refine boxE 3 #[.int .i64 a1_0,.int .i64 a1_1,.int .i64 a1_2] 170 ?_;intro gbz2 hg wz2 hbox hb;have BKz2:=Aside0.mk (hbox);have GWz2:=Aside0.mk (gX' hg (hX HB.out));have GEz2:=Aside0.mk (gX' hg (hX HB.out));have NBz1:=Aside0.mk (gL hg (bX BKz1.out));have NBz2:=Aside0.mk (gG hg (bX BKz1.out));replace BKz1:=Aside0.mk (blk_below (bX BKz1.out) hb);replace HB:=Aside0.mk (below_step (hX HB.out) hb);clear hb hbox hg;have hnbz1:=NBz1.out;have hncz1:=NBz2.out;obtain⟨hczz1,hczz2,hczz3,hfzz1,hfzz2,hfzz3⟩:=cZ3 BKz1.out;obtain⟨hczz4,hczz5,hczz6,hfzz4,hfzz5,hfzz6⟩:=cZ3 BKz2.out;refine Stop.out ?_))
 refine⟨?_⟩
 by_cases c3:a0_0=a1_0
 ·rw[if_pos c3] at H
  obtain⟨c3b0,c3b1⟩:=eqT c3
  clear c3
  by_cases c4:a0_1=a1_1
  ·rw[if_pos c4] at H
   obtain⟨c4b0,c4b1⟩:=eqT c4
   clear c4
   by_cases c5:a0_2=a1_2
   ·rw[if_pos c5] at H
    obtain⟨c5b0,c5b1⟩:=eqT c5
    clear c5
    obtain rfl:=Option.some.inj H
    go_wp2
    go_ret
    exact⟨rE,(hX HB.out)⟩
   ·rw[if_neg c5] at H
    obtain⟨c5b0,c5b1⟩:=eqF c5
    obtain rfl:=Option.some.inj H
    go_wp2
    go_ret
    exact⟨rE,(hX HB.out)⟩
  ·rw[if_neg c4] at H
   obtain⟨c4b0,c4b1⟩:=eqF c4
   obtain rfl:=Option.some.inj H
   go_wp2
   go_ret
   exact⟨rE,(hX HB.out)⟩
 ·rw[if_neg c3] at H
  obtain⟨c3b0,c3b1⟩:=eqF c3
  obtain rfl:=Option.some.inj H
  go_wp2
  go_ret
  exact⟨rE,(hX HB.out)⟩
def X5.f (a0_0:Int) (a0_1:Int) (a0_2:Int) (a1_0:Int) (a1_1:Int) (a1_2:Int):Option (Bool):=if a0_0=a1_0 then (if a0_1=a1_1 then (if a0_2=a1_2 then (some true) else (some false)) else (some false)) else (some false)
theorem X5.calls (a0_0:Int) (a0_1:Int) (a0_2:Int) (a1_0:Int) (a1_1:Int) (a1_2:Int) (r:Bool) (w:World) (h:X5.f a0_0 a0_1 a0_2 a1_0 a1_1 a1_2=some r) :
  Calls Try.prog 186 #[.agg #[.int .i64 a0_0,.int .i64 a0_1,.int .i64 a0_2],.agg #[.int .i64 a1_0,.int .i64 a1_1,.int .i64 a1_2]] w fun e w'=>e = .returned (.bool r)∧Below w.heap.size w w':=by
 have hu200:=Try.underlying200
 have HB:=Aside0.mk (Below.refl w.heap.size w)
 have H:=h
 unfold X5.f at H
 clear h
 go_enter Try.func186,Try.ntmps186
 go_wp2_with (first | ((with_reducible refine gate_dst (N:=2) rfl ?_);refine boxE 2 #[.int .i64 a0_0,.int .i64 a0_1,.int .i64 a0_2] 200 ?_;intro gbz1 hg wz1 hbox hb;have BKz1:=Aside0.mk (hbox);have GWz1:=Aside0.mk (gX' hg (hX HB.out));have GEz1:=Aside0.mk (gX' hg (hX HB.out));replace HB:=Aside0.mk (below_step (hX HB.out) hb);clear hb hbox hg) | ((with_reducible refine gate_dst (N:=3) rfl ?_);refine boxE 3 #[.int .i64 a1_0,.int .i64 a1_1,.int .i64 a1_2] 200 ?_;intro gbz2 hg wz2 hbox hb;have BKz2:=Aside0.mk (hbox);have GWz2:=Aside0.mk (gX' hg (hX HB.out));have GEz2:=Aside0.mk (gX' hg (hX HB.out));have NBz1:=Aside0.mk (gL hg (bX BKz1.out));have NBz2:=Aside0.mk (gG hg (bX BKz1.out));replace BKz1:=Aside0.mk (blk_below (bX BKz1.out) hb);replace HB:=Aside0.mk (below_step (hX HB.out) hb);clear hb hbox hg;have hnbz1:=NBz1.out;have hncz1:=NBz2.out;obtain⟨hczz1,hczz2,hczz3,hfzz1,hfzz2,hfzz3⟩:=cZ3 BKz1.out;obtain⟨hczz4,hczz5,hczz6,hfzz4,hfzz5,hfzz6⟩:=cZ3 BKz2.out;refine Stop.out ?_))
 refine⟨?_⟩
 by_cases c3:a0_0=a1_0
 ·rw[if_pos c3] at H
  obtain⟨c3b0,c3b1⟩:=eqT c3
  clear c3
  by_cases c4:a0_1=a1_1
  ·rw[if_pos c4] at H
   obtain⟨c4b0,c4b1⟩:=eqT c4
   clear c4
   by_cases c5:a0_2=a1_2
   ·rw[if_pos c5] at H
    obtain⟨c5b0,c5b1⟩:=eqT c5
    clear c5
    obtain rfl:=Option.some.inj H
    go_wp2
    go_ret
    exact⟨rE,(hX HB.out)⟩
   ·rw[if_neg c5] at H
    obtain⟨c5b0,c5b1⟩:=eqF c5
    obtain rfl:=Option.some.inj H
    go_wp2
    go_ret
    exact⟨rE,(hX HB.out)⟩
  ·rw[if_neg c4] at H
   obtain⟨c4b0,c4b1⟩:=eqF c4
   obtain rfl:=Option.some.inj H
   go_wp2
   go_ret
   exact⟨rE,(hX HB.out)⟩
 ·rw[if_neg c3] at H
  obtain⟨c3b0,c3b1⟩:=eqF c3
  obtain rfl:=Option.some.inj H
  go_wp2
  go_ret
  exact⟨rE,(hX HB.out)⟩
def Xae.f (a0_0:Int) (a0_1:Int) (a1_0:Int) (a1_1:Int):Option (Bool):=if a0_0=a1_0 then (if a0_1=a1_1 then (some true) else (some false)) else (some false)
theorem Xae.calls (a0_0:Int) (a0_1:Int) (a1_0:Int) (a1_1:Int) (r:Bool) (w:World) (h:Xae.f a0_0 a0_1 a1_0 a1_1=some r) :
  Calls Try.prog 183 #[.agg #[.int .i64 a0_0,.int .i64 a0_1],.agg #[.int .i64 a1_0,.int .i64 a1_1]] w fun e w'=>e = .returned (.bool r)∧Below w.heap.size w w':=by
 have hu187:=Try.underlying187
 have HB:=Aside0.mk (Below.refl w.heap.size w)
 have H:=h
 unfold Xae.f at H
 clear h
 go_enter Try.func183,Try.ntmps183
 go_wp2_with (first | ((with_reducible refine gate_dst (N:=2) rfl ?_);refine boxE 2 #[.int .i64 a0_0,.int .i64 a0_1] 187 ?_;intro gbz1 hg wz1 hbox hb;have BKz1:=Aside0.mk (hbox);have GWz1:=Aside0.mk (gX' hg (hX HB.out));have GEz1:=Aside0.mk (gX' hg (hX HB.out));replace HB:=Aside0.mk (below_step (hX HB.out) hb);clear hb hbox hg) | ((with_reducible refine gate_dst (N:=3) rfl ?_);refine boxE 3 #[.int .i64 a1_0,.int .i64 a1_1] 187 ?_;intro gbz2 hg wz2 hbox hb;have BKz2:=Aside0.mk (hbox);have GWz2:=Aside0.mk (gX' hg (hX HB.out));have GEz2:=Aside0.mk (gX' hg (hX HB.out));have NBz1:=Aside0.mk (gL hg (bX BKz1.out));have NBz2:=Aside0.mk (gG hg (bX BKz1.out));replace BKz1:=Aside0.mk (blk_below (bX BKz1.out) hb);replace HB:=Aside0.mk (below_step (hX HB.out) hb);clear hb hbox hg;have hnbz1:=NBz1.out;have hncz1:=NBz2.out;obtain⟨hczz1,hczz2,hfzz1,hfzz2⟩:=cZ2 BKz1.out;obtain⟨hczz3,hczz4,hfzz3,hfzz4⟩:=cZ2 BKz2.out;refine Stop.out ?_))
 refine⟨?_⟩
 by_cases c3:a0_0=a1_0
 ·rw[if_pos c3] at H
  obtain⟨c3b0,c3b1⟩:=eqT c3
  clear c3
  by_cases c4:a0_1=a1_1
  ·rw[if_pos c4] at H
   obtain⟨c4b0,c4b1⟩:=eqT c4
   clear c4
   obtain rfl:=Option.some.inj H
   go_wp2
   go_ret
   exact⟨rE,(hX HB.out)⟩
  ·rw[if_neg c4] at H
   obtain⟨c4b0,c4b1⟩:=eqF c4
   obtain rfl:=Option.some.inj H
   go_wp2
   go_ret
   exact⟨rE,(hX HB.out)⟩
 ·rw[if_neg c3] at H
  obtain⟨c3b0,c3b1⟩:=eqF c3
  obtain rfl:=Option.some.inj H
  go_wp2
  go_ret
  exact⟨rE,(hX HB.out)⟩
def Xaf.f (a0_0:Int) (a0_1:Int) (a0_2:Int) (a0_3:Int) (a1_0:Int) (a1_1:Int) (a1_2:Int) (a1_3:Int):Option (Bool):=if a0_0=a1_0 then (if a0_1=a1_1 then (if a0_2=a1_2 then (if a0_3=a1_3 then (some true) else (some false)) else (some false)) else (some false)) else (some false)
theorem Xaf.calls (a0_0:Int) (a0_1:Int) (a0_2:Int) (a0_3:Int) (a1_0:Int) (a1_1:Int) (a1_2:Int) (a1_3:Int) (r:Bool) (w:World) (h:Xaf.f a0_0 a0_1 a0_2 a0_3 a1_0 a1_1 a1_2 a1_3=some r) :
  Calls Try.prog 184 #[.agg #[.int .i64 a0_0,.int .i64 a0_1,.int .i64 a0_2,.int .i64 a0_3],.agg #[.int .i64 a1_0,.int .i64 a1_1,.int .i64 a1_2,.int .i64 a1_3]] w fun e w'=>e = .returned (.bool r)∧Below w.heap.size w w':=by
 have hu189:=Try.underlying189
 have HB:=Aside0.mk (Below.refl w.heap.size w)
 have H:=h
 unfold Xaf.f at H
 clear h
 go_enter Try.func184,Try.ntmps184
 go_wp2_with (first | ((with_reducible refine gate_dst (N:=2) rfl ?_);refine boxE 2 #[.int .i64 a0_0,.int .i64 a0_1,.int .i64 a0_2,.int .i64 a0_3] 189 ?_;intro gbz1 hg wz1 hbox hb;have BKz1:=Aside0.mk (hbox);have GWz1:=Aside0.mk (gX' hg (hX HB.out));have GEz1:=Aside0.mk (gX' hg (hX HB.out));replace HB:=Aside0.mk (below_step (hX HB.out) hb);clear hb hbox hg) | ((with_reducible refine gate_dst (N:=3) rfl ?_);refine boxE 3 #[.int .i64 a1_0,.int .i64 a1_1,.int .i64 a1_2,.int .i64 a1_3] 189 ?_;intro gbz2 hg wz2 hbox hb;have BKz2:=Aside0.mk (hbox);have GWz2:=Aside0.mk (gX' hg (hX HB.out));have GEz2:=Aside0.mk (gX' hg (hX HB.out));have NBz1:=Aside0.mk (gL hg (bX BKz1.out));have NBz2:=Aside0.mk (gG hg (bX BKz1.out));replace BKz1:=Aside0.mk (blk_below (bX BKz1.out) hb);replace HB:=Aside0.mk (below_step (hX HB.out) hb);clear hb hbox hg;have hnbz1:=NBz1.out;have hncz1:=NBz2.out;obtain⟨hczz1,hczz2,hczz3,hczz4,hfzz1,hfzz2,hfzz3,hfzz4⟩:=cZ4 BKz1.out;obtain⟨hczz5,hczz6,hczz7,hczz8,hfzz5,hfzz6,hfzz7,hfzz8⟩:=cZ4 BKz2.out;refine Stop.out ?_))
 refine⟨?_⟩
 by_cases c3:a0_0=a1_0
 ·rw[if_pos c3] at H
  obtain⟨c3b0,c3b1⟩:=eqT c3
  clear c3
  by_cases c4:a0_1=a1_1
  ·rw[if_pos c4] at H
   obtain⟨c4b0,c4b1⟩:=eqT c4
   clear c4
   by_cases c5:a0_2=a1_2
   ·rw[if_pos c5] at H
    obtain⟨c5b0,c5b1⟩:=eqT c5
    clear c5
    by_cases c6:a0_3=a1_3
    ·rw[if_pos c6] at H
     obtain⟨c6b0,c6b1⟩:=eqT c6
     clear c6
     obtain rfl:=Option.some.inj H
     go_wp2
     go_ret
     exact⟨rE,(hX HB.out)⟩
    ·rw[if_neg c6] at H
     obtain⟨c6b0,c6b1⟩:=eqF c6
     obtain rfl:=Option.some.inj H
     go_wp2
     go_ret
     exact⟨rE,(hX HB.out)⟩
   ·rw[if_neg c5] at H
    obtain⟨c5b0,c5b1⟩:=eqF c5
    obtain rfl:=Option.some.inj H
    go_wp2
    go_ret
    exact⟨rE,(hX HB.out)⟩
  ·rw[if_neg c4] at H
   obtain⟨c4b0,c4b1⟩:=eqF c4
   obtain rfl:=Option.some.inj H
   go_wp2
   go_ret
   exact⟨rE,(hX HB.out)⟩
 ·rw[if_neg c3] at H
  obtain⟨c3b0,c3b1⟩:=eqF c3
  obtain rfl:=Option.some.inj H
  go_wp2
  go_ret
  exact⟨rE,(hX HB.out)⟩
def Xh.l0:Nat→List Int→Int→Int→Option (Int × List Int)
 | 0,_,_,_=>none
 | k+1,x0,x1,x5=>if x5<(x0.length:Int) then (if 0≤x5 then (Xh.l0 k (x0.set (x5:Int).toNat x1) (wrap64 (x1+1)) (wrap64 (x5+1))) else (none)) else (some (x1,x0))
def Xh.f (k:Nat) (l0:List Int) (a1:Int):Option (Int × List Int):=Xh.l0 k l0 a1 0
theorem Xh.calls (k:Nat) (P0_:Nat→Prop) (u9000_:Value) (l0:List Int) (a1:Int) (r1:Int) (r2:List Int) (w0 w:World) (hB:Below w0.heap.size w0 w) (ho0:Kd.R (Kd.int .i64) 3 w w0.heap.size P0_ u9000_ l0) (h:Xh.f k l0 a1=some (r1,r2)) :
  Calls Try.prog 18 #[u9000_,.int .i64 a1] w fun e w'=>e = .returned (.int .i64 r1)∧Kd.R (Kd.int .i64) 3 w' w0.heap.size (fun k_=>(P0_ k_ ∨ w.heap.size≤k_)) u9000_ r2∧Below w0.heap.size w0 w'∧Kept w w' (fun k_=>P0_ k_):=by
 have HO0:=Aside0.mk (show Kd.R (Kd.int .i64) 3 w w0.heap.size (fun k_=>(P0_ k_ ∨ w.heap.size≤k_)) u9000_ l0 from Kd.R_mono ho0 (fun k_ hk=>(.inl hk)))
 have HK:=Aside0.mk (Kept.refl w (fun k_=>P0_ k_))
 have HW0:=Aside0.mk hB.size
 have HB:=Aside0.mk hB
 clear hB
 have H:=h
 unfold Xh.f at H
 clear h
 have H':=Aside0.mk H
 clear H
 go_enter Try.func18,Try.ntmps18
 go_wp2
 go_loopg [1,5] k (fun kq v1 v5 w'=>∃ (x0_1:List Int) (x1_1:Int) (x5_1:Int),v1 = .int .i64 x1_1∧v5 = .int .i64 x5_1∧Aside0 (Xh.l0 kq x0_1 x1_1 x5_1=some (r1,r2))∧Aside0 (kq≤k)∧Aside0 (Kd.R (Kd.int .i64) 3 w' w0.heap.size (fun k_=>(P0_ k_ ∨ w.heap.size≤k_)) u9000_ x0_1)∧Aside0 (Kept w w' (fun k_=>P0_ k_))∧Aside0 (Below w0.heap.size w0 w'))
 case atStart=>exact⟨(l0),(a1),(0),rS,rS,H',⟨Nat.le_refl _⟩,⟨(rX HO0.out)⟩,⟨by repeat (first | (with_reducible first | exact HK.out | apply Kept.alloc | apply Kept.drewN | apply Kept.drew) | exact HK.out)⟩,⟨(hX HB.out)⟩⟩
 case round =>
  clear H'
  try clear c1
  try clear p2
  obtain⟨x0_1,x1_1,x5_1,rfl,rfl,HA,HKy1,HO_y1,HK,HB⟩:=hrel
  cases gk with
  | zero=>exact absurd HA.out (by simp[Xh.l0])
  | succ k1 =>
   have H:=HA.out
   clear HA
   simp only[Xh.l0] at H
   by_cases c3:x5_1<(x0_1.length:Int)
   ·rw[if_pos c3] at H
    have c3b0:=decide_eq_true c3
    clear c3
    replace H:=ifP H;obtain⟨c4,H⟩:=H
    have c4b0:=decide_eq_true c4
    clear c4
    obtain⟨y101,hy101⟩:∃ y_:List Int,y_=(x0_1.set (x5_1:Int).toNat x1_1):=⟨_,rfl⟩
    replace H:(Xh.l0 k1 y101 (wrap64 (x1_1+1)) (wrap64 (x5_1+1)))=some (r1,r2):=yH H hy101
    have Ny101:=Aside0.mk hy101
    clear hy101
    have H':=Aside0.mk H
    clear H
    obtain⟨Aox1,cox1,eox1⟩:=Kd.R_slice HO_y1.out
    subst eox1
    have px1:0≤(x5_1:Int):=of_decide_eq_true (by first | (with_reducible assumption) | assumption)
    have qx1:(x5_1:Int)<((x0_1.length:Int):Int):=of_decide_eq_true (by first | (with_reducible assumption) | assumption)
    obtain⟨gox1,cox2,eox2,gbx1,glx1,clx1,HGx1⟩:=Kd.R_form HO_y1.out (by omega)
    (first | cases eox2 | (injection eox2 with ea_ en_ ec_;(first | subst ea_ | (injection ea_ with ea_;subst ea_));subst ec_;clear en_))
    have GBx1:=Aside0.mk gbx1
    have GGx1:=Aside0.mk HGx1
    clear gbx1 glx1 HGx1
    have HMgox1:=Aside0.mk (show (P0_ gox1 ∨ w.heap.size≤gox1) from (HO_y1.out.1 _ rfl))
    obtain⟨hxx1,hfx1⟩:=Kd.R_celln 0 HO_y1.out (x5_1:Int) px1 qx1
    replace px1:=eq_true px1
    replace qx1:=eq_true qx1
    have HPx1:=Kd.R_putg HO_y1.out (x5_1:Int) x1_1
    go_wp2_with (first | ((with_reducible refine gate_store (t:=3) (p:=15) rfl ?_);refine store_event (t:=3) (p:=15) (v:=?vo_wx1) (w1:=(wr.setCell ⟨gox1,(x5_1:Int).toNat,none⟩ (.int .i64 x1_1))) ?hg ?ho ?hn ?hr ?_;(case ho=>rfl);(case hg=>rfl);(case hn=>rfl);(case hr=>first | (go_simp;done) | (go_simp;rfl));intro wx1 hw;have hg:wr.grownBy wx1 (some gox1):=(by rw[hw];exact HPx1.2);have hp_:Kd.R (Kd.int .i64) 3 wx1 w0.heap.size (fun k_=>(P0_ k_ ∨ w.heap.size≤k_)) (.slice (some ⟨gox1,0,none⟩) x0_1.length cox1) y101:=(by rw[hw,Ny101.out];exact HPx1.1);clear HPx1;replace HB:=Aside0.mk ((by rw[hw];exact below_set (HB.out) GBx1.out:Below w0.heap.size w0 wx1));replace HK:=Aside0.mk (Kept.of_grown (S:=(fun k_=>P0_ k_)) hg (by repeat (first | (with_reducible first | exact HK.out | apply Kept.alloc | apply Kept.drewN | apply Kept.drew) | exact HK.out)) (fun k_ e_=>(HO_y1.out.1 k_ e_)));replace HO_y1:=Aside0.mk (hp_);clear hg hw hp_))
    go_roundg k1
    case measure=>have:=HKy1.out;omega
    case rel=>exact⟨(y101),(wrap64 (x1_1+1)),(wrap64 (x5_1+1)),rS,rS,H',⟨by have:=HKy1.out;omega⟩,⟨(rX HO_y1.out)⟩,⟨by repeat (first | (with_reducible first | exact HK.out | apply Kept.alloc | apply Kept.drewN | apply Kept.drew) | exact HK.out)⟩,⟨(hX HB.out)⟩⟩
   ·rw[if_neg c3] at H
    have c3b0:=decide_eq_false c3
    clear c3
    simp only[Option.some.injEq,Prod.mk.injEq] at H
    obtain⟨rfl,rfl⟩:=H
    obtain⟨Aox1,cox1,eox1⟩:=Kd.R_slice HO_y1.out
    subst eox1
    go_wp2
    go_ret
    exact⟨rE,(rX HO_y1.out),(hX HB.out),by repeat (first | (with_reducible first | exact HK.out | apply Kept.alloc | apply Kept.drewN | apply Kept.drew) | exact HK.out)⟩
def XF.l0:Nat→List Int→Int→Int→Option (Int)
 | 0,_,_,_=>none
 | k+1,x0,x1,x5=>if x5<(x0.length:Int) then (if 0≤x5 then (if (rd x0 x5)=x1 then (XF.l0 k x0 (wrap64 (x1+1)) (wrap64 (x5+1))) else (some (-1))) else (none)) else (some x1)
def XF.f (k:Nat) (l0:List Int) (a1:Int):Option (Int):=XF.l0 k l0 a1 0
theorem XF.calls (k:Nat) (A0:Option Addr) (c0:Nat) (l0:List Int) (a1:Int) (r:Int) (w:World) (hr0:Kd.C (Kd.int .i64) w A0 l0.length l0) (hc0:l0.length≤c0) (h:XF.f k l0 a1=some r) :
  Calls Try.prog 25 #[.slice A0 l0.length c0,.int .i64 a1] w fun e w'=>e = .returned (.int .i64 r)∧Drawn0 w w':=by
 have HR0:=Aside0.mk hr0
 have HC0:=Aside0.mk hc0
 clear hr0 hc0
 have H:=h
 unfold XF.f at H
 clear h
 have H':=Aside0.mk H
 clear H
 go_enter Try.func25,Try.ntmps25
 go_wp2
 go_loopg [1,5] k (fun kq v1 v5 w'=>∃ (x1_1:Int) (x5_1:Int),v1 = .int .i64 x1_1∧v5 = .int .i64 x5_1∧Aside0 (XF.l0 kq l0 x1_1 x5_1=some r)∧Aside0 (kq≤k)∧Drawn0 w w')
 case atStart=>exact⟨(a1),(0),rS,rS,H',⟨Nat.le_refl _⟩,dX⟩
 case round =>
  clear H'
  try clear c2
  try clear p2
  obtain⟨x1_1,x5_1,rfl,rfl,HA,HKy1,⟨my1,rfl⟩⟩:=hrel
  cases gk with
  | zero=>exact absurd HA.out (by simp[XF.l0])
  | succ k1 =>
   have H:=HA.out
   clear HA
   simp only[XF.l0] at H
   by_cases c3:x5_1<(l0.length:Int)
   ·rw[if_pos c3] at H
    have c3b0:=decide_eq_true c3
    clear c3
    replace H:=ifP H;obtain⟨c4,H⟩:=H
    have c4b0:=decide_eq_true c4
    clear c4
    by_cases c5:(rd l0 x5_1)=x1_1
    ·rw[if_pos c5] at H
     obtain⟨c5b0,c5b1⟩:=eqT c5
     clear c5
     have H':=Aside0.mk H
     clear H
     have px1:0≤(x5_1:Int):=of_decide_eq_true (by first | (with_reducible assumption) | assumption)
     have qx1:x5_1<(l0.length:Int):=of_decide_eq_true (by first | (with_reducible assumption) | assumption)
     obtain⟨adx1,ex1,hxx1⟩:=Kd.at_int HR0.out x5_1 px1 qx1
     cases ex1
     replace px1:=eq_true px1
     replace qx1:=eq_true qx1
     go_wp2
     go_roundg k1
     case measure=>have:=HKy1.out;omega
     case rel=>exact⟨(wrap64 (x1_1+1)),(wrap64 (x5_1+1)),rS,rS,H',⟨by have:=HKy1.out;omega⟩,dX⟩
    ·rw[if_neg c5] at H
     obtain⟨c5b0,c5b1⟩:=eqF c5
     obtain rfl:=Option.some.inj H
     have px1:0≤(x5_1:Int):=of_decide_eq_true (by first | (with_reducible assumption) | assumption)
     have qx1:x5_1<(l0.length:Int):=of_decide_eq_true (by first | (with_reducible assumption) | assumption)
     obtain⟨adx1,ex1,hxx1⟩:=Kd.at_int HR0.out x5_1 px1 qx1
     cases ex1
     replace px1:=eq_true px1
     replace qx1:=eq_true qx1
     go_wp2
     go_ret
     exact⟨by first | rfl | (simp;done) | (simp[*];done),dX⟩
   ·rw[if_neg c3] at H
    have c3b0:=decide_eq_false c3
    clear c3
    obtain rfl:=Option.some.inj H
    go_wp2
    go_ret
    exact⟨by first | rfl | (simp;done) | (simp[*];done),dX⟩
end Go.Proofs.Yteamagejhbkhnaa.P
namespace Go.Proofs.Yteamagejhbkhnaa.P
open Go.RowKit Go.Proofs.YteamagejhbkhnaaW.PrintWords Go.Proofs.YteamagejhbkhnaaW.PrintLast Go.Proofs.YteamagejhbkhnaaZ
def wf172 (x:S172):Prop:=(Lit.int .i64 x.f0).wf=true∧(Lit.int .i64 x.f1).wf=true∧(Lit.int .i64 x.f2).wf=true
theorem op172:Opens Try.prog 172 k172 wf172:=Opens.struct (fun x:S172=>(x.f0,x.f1,x.f2)) (fun a=>⟨a.1,a.2.1,a.2.2⟩) (fun _=>rfl) Try.underlying172 (by kernel_rfl) (OpensF.cons 0 _ rfl rfl (by kernel_rfl) (Opens.int Try.underlying3) (OpensF.cons 1 _ rfl rfl (by kernel_rfl) (Opens.int Try.underlying3) (OpensF.last 2 _ rfl rfl (by kernel_rfl) (Opens.int Try.underlying3))))
def wf202 (x:S202):Prop:=(Lit.int .i64 x.f0).wf=true∧(Lit.int .i64 x.f1).wf=true∧(Lit.int .i64 x.f2).wf=true
theorem op202:Opens Try.prog 202 k202 wf202:=Opens.struct (fun x:S202=>(x.f0,x.f1,x.f2)) (fun a=>⟨a.1,a.2.1,a.2.2⟩) (fun _=>rfl) Try.underlying202 (by kernel_rfl) (OpensF.cons 0 _ rfl rfl (by kernel_rfl) (Opens.int Try.underlying3) (OpensF.cons 1 _ rfl rfl (by kernel_rfl) (Opens.int Try.underlying3) (OpensF.last 2 _ rfl rfl (by kernel_rfl) (Opens.int Try.underlying3))))
def wf51 (x:S51):Prop:=(Lit.int .i64 x.f0).wf=true∧(x.f1.length≤9223372036854775807∧∀ y ∈ x.f1,(Lit.int .i64 y).wf=true)
theorem op51:Opens Try.prog 51 k51 wf51:=Opens.struct (fun x:S51=>(x.f0,x.f1)) (fun a=>⟨a.1,a.2⟩) (fun _=>rfl) Try.underlying51 (by kernel_rfl) (OpensF.cons 0 _ rfl rfl (by kernel_rfl) (Opens.int Try.underlying3) (OpensF.last 1 _ rfl rfl (by kernel_rfl) (Opens.slice 3 Try.underlying22 (by kernel_rfl) (Opens.int Try.underlying3))))
def wf165 (x:S165):Prop:=(Lit.int .i64 x.f0).wf=true∧(Lit.int .i64 x.f1).wf=true∧(x.f2.length≤9223372036854775807∧∀ y ∈ x.f2,wf202 y)∧wf51 x.f3
theorem op165:Opens Try.prog 165 k165 wf165:=Opens.struct (fun x:S165=>(x.f0,x.f1,x.f2,x.f3)) (fun a=>⟨a.1,a.2.1,a.2.2.1,a.2.2.2⟩) (fun _=>rfl) Try.underlying165 (by kernel_rfl) (OpensF.cons 0 _ rfl rfl (by kernel_rfl) (Opens.int Try.underlying3) (OpensF.cons 1 _ rfl rfl (by kernel_rfl) (Opens.int Try.underlying3) (OpensF.cons 2 _ rfl rfl (by kernel_rfl) (Opens.slice 202 Try.underlying163 (by kernel_rfl) (op202)) (OpensF.last 3 _ rfl rfl (by kernel_rfl) (op51)))))
def wf75 (x:S75):Prop:=(x.f0.length≤9223372036854775807∧∀ y ∈ x.f0,wf172 y)∧(x.f1.length≤9223372036854775807∧∀ y ∈ x.f1,wf165 y)
theorem op75:Opens Try.prog 75 k75 wf75:=Opens.struct (fun x:S75=>(x.f0,x.f1)) (fun a=>⟨a.1,a.2⟩) (fun _=>rfl) Try.underlying75 (by kernel_rfl) (OpensF.cons 0 _ rfl rfl (by kernel_rfl) (Opens.slice 172 Try.underlying72 (by kernel_rfl) (op172)) (OpensF.last 1 _ rfl rfl (by kernel_rfl) (Opens.slice 165 Try.underlying73 (by kernel_rfl) (op165))))
def wf49 (x:S49):Prop:=(Lit.int .i64 x.f0).wf=true∧(Lit.int .i64 x.f1).wf=true∧(Lit.int .i64 x.f2).wf=true
theorem op49:Opens Try.prog 49 k49 wf49:=Opens.struct (fun x:S49=>(x.f0,x.f1,x.f2)) (fun a=>⟨a.1,a.2.1,a.2.2⟩) (fun _=>rfl) Try.underlying49 (by kernel_rfl) (OpensF.cons 0 _ rfl rfl (by kernel_rfl) (Opens.int Try.underlying3) (OpensF.cons 1 _ rfl rfl (by kernel_rfl) (Opens.int Try.underlying3) (OpensF.last 2 _ rfl rfl (by kernel_rfl) (Opens.int Try.underlying3))))
def wf193 (x:S193):Prop:=(Lit.int .i64 x.f0).wf=true∧(Lit.int .i64 x.f1).wf=true
theorem op193:Opens Try.prog 193 k193 wf193:=Opens.struct (fun x:S193=>(x.f0,x.f1)) (fun a=>⟨a.1,a.2⟩) (fun _=>rfl) Try.underlying193 (by kernel_rfl) (OpensF.cons 0 _ rfl rfl (by kernel_rfl) (Opens.int Try.underlying3) (OpensF.last 1 _ rfl rfl (by kernel_rfl) (Opens.int Try.underlying3)))
def wf195 (x:S195):Prop:=(Lit.int .i64 x.f0).wf=true∧(Lit.int .i64 x.f1).wf=true∧(Lit.int .i64 x.f2).wf=true∧(Lit.int .i64 x.f3).wf=true
theorem op195:Opens Try.prog 195 k195 wf195:=Opens.struct (fun x:S195=>(x.f0,x.f1,x.f2,x.f3)) (fun a=>⟨a.1,a.2.1,a.2.2.1,a.2.2.2⟩) (fun _=>rfl) Try.underlying195 (by kernel_rfl) (OpensF.cons 0 _ rfl rfl (by kernel_rfl) (Opens.int Try.underlying3) (OpensF.cons 1 _ rfl rfl (by kernel_rfl) (Opens.int Try.underlying3) (OpensF.cons 2 _ rfl rfl (by kernel_rfl) (Opens.int Try.underlying3) (OpensF.last 3 _ rfl rfl (by kernel_rfl) (Opens.int Try.underlying3)))))
def wf139 (x:S139):Prop:=(x.f0.length≤9223372036854775807∧∀ y ∈ x.f0,wf49 y)∧(Lit.int .i64 x.f1).wf=true∧True∧(x.f3.length≤9223372036854775807∧∀ y ∈ x.f3,wf193 y)∧(x.f4.length≤9223372036854775807∧∀ y ∈ x.f4,wf195 y)
theorem op139:Opens Try.prog 139 k139 wf139:=Opens.struct (fun x:S139=>(x.f0,x.f1,x.f2,x.f3,x.f4)) (fun a=>⟨a.1,a.2.1,a.2.2.1,a.2.2.2.1,a.2.2.2.2⟩) (fun _=>rfl) Try.underlying139 (by kernel_rfl) (OpensF.cons 0 _ rfl rfl (by kernel_rfl) (Opens.slice 49 Try.underlying135 (by kernel_rfl) (op49)) (OpensF.cons 1 _ rfl rfl (by kernel_rfl) (Opens.int Try.underlying3) (OpensF.cons 2 _ rfl rfl (by kernel_rfl) (Opens.bool Try.underlying4) (OpensF.cons 3 _ rfl rfl (by kernel_rfl) (Opens.slice 193 Try.underlying136 (by kernel_rfl) (op193)) (OpensF.last 4 _ rfl rfl (by kernel_rfl) (Opens.slice 195 Try.underlying137 (by kernel_rfl) (op195)))))))
def wf53 (x:S53):Prop:=(Lit.int .i64 x.f0).wf=true∧wf49 x.f1∧(Lit.int .i64 x.f2).wf=true∧(Lit.int .i64 x.f3).wf=true∧(Lit.int .i64 x.f4).wf=true∧wf51 x.f5
theorem op53:Opens Try.prog 53 k53 wf53:=Opens.struct (fun x:S53=>(x.f0,x.f1,x.f2,x.f3,x.f4,x.f5)) (fun a=>⟨a.1,a.2.1,a.2.2.1,a.2.2.2.1,a.2.2.2.2.1,a.2.2.2.2.2⟩) (fun _=>rfl) Try.underlying53 (by kernel_rfl) (OpensF.cons 0 _ rfl rfl (by kernel_rfl) (Opens.int Try.underlying3) (OpensF.cons 1 _ rfl rfl (by kernel_rfl) (op49) (OpensF.cons 2 _ rfl rfl (by kernel_rfl) (Opens.int Try.underlying3) (OpensF.cons 3 _ rfl rfl (by kernel_rfl) (Opens.int Try.underlying3) (OpensF.cons 4 _ rfl rfl (by kernel_rfl) (Opens.int Try.underlying3) (OpensF.last 5 _ rfl rfl (by kernel_rfl) (op51)))))))
def wf62 (x:S62):Prop:=(x.f0.length≤9223372036854775807∧∀ y ∈ x.f0,(Lit.int .i64 y).wf=true)∧(Lit.int .i64 x.f1).wf=true
theorem op62:Opens Try.prog 62 k62 wf62:=Opens.struct (fun x:S62=>(x.f0,x.f1)) (fun a=>⟨a.1,a.2⟩) (fun _=>rfl) Try.underlying62 (by kernel_rfl) (OpensF.cons 0 _ rfl rfl (by kernel_rfl) (Opens.slice 3 Try.underlying22 (by kernel_rfl) (Opens.int Try.underlying3)) (OpensF.last 1 _ rfl rfl (by kernel_rfl) (Opens.int Try.underlying3)))
def wf78 (x:S78):Prop:=wf75 x.f0∧(x.f1.length≤9223372036854775807∧∀ y ∈ x.f1,wf139 y)∧(Lit.int .i64 x.f2).wf=true∧(x.f3.length≤9223372036854775807∧∀ y ∈ x.f3,wf53 y)∧(x.f4.length≤9223372036854775807∧∀ y ∈ x.f4,(Lit.int .i64 y).wf=true)∧wf62 x.f5
theorem op78:Opens Try.prog 78 k78 wf78:=Opens.struct (fun x:S78=>(x.f0,x.f1,x.f2,x.f3,x.f4,x.f5)) (fun a=>⟨a.1,a.2.1,a.2.2.1,a.2.2.2.1,a.2.2.2.2.1,a.2.2.2.2.2⟩) (fun _=>rfl) Try.underlying78 (by kernel_rfl) (OpensF.cons 0 _ rfl rfl (by kernel_rfl) (op75) (OpensF.cons 1 _ rfl rfl (by kernel_rfl) (Opens.slice 139 Try.underlying76 (by kernel_rfl) (op139)) (OpensF.cons 2 _ rfl rfl (by kernel_rfl) (Opens.int Try.underlying3) (OpensF.cons 3 _ rfl rfl (by kernel_rfl) (Opens.slice 53 Try.underlying63 (by kernel_rfl) (op53)) (OpensF.cons 4 _ rfl rfl (by kernel_rfl) (Opens.slice 3 Try.underlying22 (by kernel_rfl) (Opens.int Try.underlying3)) (OpensF.last 5 _ rfl rfl (by kernel_rfl) (op62)))))))
end Go.Proofs.Yteamagejhbkhnaa.P
