/- A part of the proof of the law FnStarts: texts of this seat, merged (words, printed functions of the program, plain lemmas). Conditions: none of its own. -/
import Derived.Test.YthejoblnfpaojaaGreatPkFnStarts32
import Derived.Test.YthejoblnfpaojaaGreatPkFnStarts44
set_option linter.unusedSimpArgs false
set_option linter.unusedVariables false
set_option maxHeartbeats 8000000
set_option maxRecDepth 100000
namespace Go.Proofs.YthejoblnfpaojaaGreat.P
open Go.RowKit Go.Proofs.YthejoblnfpaojaaGreatW.PrintWords Go.Proofs.YthejoblnfpaojaaGreatW.PrintLast Go.Proofs.YthejoblnfpaojaaGreatZ
def smM (w:List mW) (d:List mD) (t:List mT) (c:List mC) (o q:List Int):Prop :=
 w.length≤1048576∧d.length≤1048576∧smD d∧t.length≤1048576∧(∀ x ∈ t,smT x)∧c.length≤1048576∧o.length≤1048576∧q.length≤1048576
def machP (w:List mW) (d:List mD) (t:List mT) (tm:Int) (c:List mC) (o q:List Int) (s:Int):Prop :=
 memP w d∧d.length=t.length∧(0≤tm∧tm≤100000)∧okB q 0 s=true∧((∀ x ∈ c,callP t.length tm x)∧c.length≤40∧ordersP c o)∧∀ (i:Nat) x,t[i]? = some x→thrP t.length x∧tcP (i:Int) x c
theorem Xbf (w:List mW) (d:List mD) (t:List mT) (tm:Int) (c:List mC) (o q:List Int) (s:Int) (h:smM w d t c o q):EvB (fun k=>Xh.f k w d t tm c o q s) (machP w d t tm c o q s):=by
 obtain⟨s1,s2,s3,s4,s5,s6,s7,s8⟩:=h
 have bad:Ev (fun k=>Xh.j0 k true w d t tm c o q s) false:=Ev.shift (by simp only[Xh.j0,if_true];exact Ev.now _)
 simp only[Xh.f,specIn_eq,Option.bind_some,decide_eq_true_eq]
 refine EvB.bind (XaV w d s1 s2 s3) (fun h1=>EvB.pos rfl ?_) (fun h1=>EvB.neg (by decide) (EvB.no bad (fun p=>h1 p.1)))
 refine EvB.ite (fun h2=>EvB.ite (fun h3 => ?_) (fun h3=>EvB.no bad (fun p=>h3 p.2.2.1))) (fun h2=>EvB.no bad (fun p=>h2 (by rw[p.2.1])))
 refine EvB.at (Xa4 q s s8) ?_
 refine EvB.ite (fun h4 => ?_) (fun h4=>EvB.no bad (fun p=>h4 p.2.2.2.1))
 refine EvB.bind (Xbi w d t tm c o q s s4 s6 s7) (fun h5 => ?_) (fun h5=>EvB.no bad (fun p=>h5 p.2.2.2.2.1))
 refine EvB.shift ?_
 simp only[Bool.not_true,Xh.j0,Bool.false_eq_true,if_false]
 refine(EvB.each t (R:=fun i x=>thrP t.length x∧tcP (i:Int) x c) (Q:=True) (g:=fun i k=>Xh.l0 k (i:Int) w d t tm c o q s) (fun _ => ?_) (fun i x hx hi hp hn => ?_) (fun i x hx hi hp hr r g => ?_)).iff ⟨fun a=>⟨h1,by omega,h3,h4,h5,a.1⟩,fun a=>⟨a.2.2.2.2.2,trivial⟩⟩
 ·refine EvB.yes (Ev.shift ?_) trivial
  simp only[Xh.l0,Int.lt_irrefl,if_false]
  exact Ev.now _
 ·have c0:(0:Int)≤(i:Int):=by omega
  have c1:(i:Int)<(t.length:Int):=by omega
  have er:rd_T108 t (i:Int)=x:=getD_get hx
  refine Ev.shift ?_
  simp only[Xh.l0,c0,c1,if_true,er]
  refine EvB.then_ (Xa0 t.length x (s5 x (List.mem_of_getElem? hx))) (fun g1=>Ev.pos rfl ?_) (fun g1=>Ev.neg (by decide) (Ev.now _))
  exact Ev.bind ((Xa3 w d t tm c o q s i x hx g1.1 s6).nval (fun a=>hn ⟨g1,a⟩)) (Ev.neg (by decide) (Ev.now _))
 ·have c0:(0:Int)≤(i:Int):=by omega
  have c1:(i:Int)<(t.length:Int):=by omega
  have er:rd_T108 t (i:Int)=x:=getD_get hx
  refine Ev.shift ?_
  simp only[Xh.l0,c0,c1,if_true,er,succ64 hi (by omega)]
  refine Ev.bind ((Xa0 t.length x (s5 x (List.mem_of_getElem? hx))).val hr.1) (Ev.pos rfl ?_)
  exact Ev.bind ((Xa3 w d t tm c o q s i x hx hr.1.1 s6).val hr.2) (Ev.pos rfl g)
theorem when_eq (x:mC) (a tm:Int) (w:List mW) (d:List mD) (t:List mT) (c:List mC) (o q:List Int) (s:Int):EvB (fun _=>X7.f x.f0 x.f1.f0 x.f1.f1 x.f1.f2 x.f2 x.f3 x.f4 x.f5.f0 x.f5.f1 a w d t tm c o q s) (a = -1 ∨ (x.f2≤a∧a≤tm)):=by
 simp only[X7.f,implFrom_eq,Option.bind_some]
 refine EvB.ite (fun h=>EvB.yes (Ev.now _) (.inl h)) (fun h=>EvB.now ?_)
 rw[decide_eq_true_iff]
 exact⟨.inr,fun p=>p.elim (fun b=>absurd b h) id⟩
theorem Xbp (w:List mW) (d:List mD) (t:List mT) (tm:Int) (c:List mC) (o q:List Int) (s:Int) (h:smM w d t c o q):EvB (fun k=>Xc.l1 k (t.length:Int) t (t.length:Int) 0 w d t tm c o q s) ((∀ (i:Nat) x,t[i]? = some x→thrP t.length x∧tcP (i:Int) x c)∧ordersP c o):=by
 obtain⟨s1,s2,s3,s4,s5,s6,s7,s8⟩:=h
 refine EvB.each t (R:=fun i x=>thrP t.length x∧tcP (i:Int) x c) (g:=fun i k=>Xc.l1 k (t.length:Int) t (t.length:Int) (i:Int) w d t tm c o q s) (fun _ => ?_) (fun i x hx hi hp hn => ?_) (fun i x hx hi hp hr r g => ?_)
 ·refine EvB.shift ?_
  simp only[Xc.l1,Int.lt_irrefl,if_false]
  exact EvB.bind (Xbj w d t tm c o q s s7 s6) (fun a=>EvB.yes (Ev.now _) a) (fun a=>EvB.no (Ev.now _) a)
 ·have c0:(0:Int)≤(i:Int):=by omega
  have c1:(i:Int)<(t.length:Int):=by omega
  have er:rd_T108 t (i:Int)=x:=getD_get hx
  refine Ev.shift ?_
  simp only[Xc.l1,c0,c1,if_true,er]
  refine EvB.then_ (Xa1 t.length (by omega) x (s5 x (List.mem_of_getElem? hx))) (fun g1=>Ev.pos rfl ?_) (fun g1=>Ev.neg (by decide) (Ev.now _))
  exact Ev.bind ((Xa6 w d t tm c o q s i x hx g1.1 s6).nval (fun a=>hn ⟨g1,a⟩)) (Ev.neg (by decide) (Ev.now _))
 ·have c0:(0:Int)≤(i:Int):=by omega
  have c1:(i:Int)<(t.length:Int):=by omega
  have er:rd_T108 t (i:Int)=x:=getD_get hx
  refine Ev.shift ?_
  simp only[Xc.l1,c0,c1,if_true,er,succ64 hi (by omega)]
  refine Ev.bind ((Xa1 t.length (by omega) x (s5 x (List.mem_of_getElem? hx))).val hr.1) (Ev.pos rfl ?_)
  exact Ev.bind ((Xa6 w d t tm c o q s i x hx hr.1.1 s6).val hr.2) (Ev.pos rfl g)
theorem XaW (w:List mW) (d:List mD) (t:List mT) (tm:Int) (c:List mC) (o q:List Int) (s:Int) (h:smM w d t c o q):EvB (fun k=>Xc.f k w d t tm c o q s) (machP w d t tm c o q s):=by
 have h0:=h
 obtain⟨s1,s2,s3,s4,s5,s6,s7,s8⟩:=h
 have hww:wrap64 ((t.length:Int) - 1)=(t.length:Int) - 1:=w64 (by omega) (by omega)
 have bad:Ev (fun k=>Xc.j0 k (t.length:Int) true w d t tm c o q s) false:=Ev.shift (by simp only[Xc.j0,if_true];exact Ev.now _)
 simp only[Xc.f,implFrom_eq,Option.bind_some,decide_eq_true_eq]
 refine EvB.bind (Xbc w d s1 s2 s3) (fun h1=>EvB.pos rfl ?_) (fun h1=>EvB.neg (by decide) (EvB.no bad (fun p=>h1 p.1)))
 refine EvB.ite (fun h2=>EvB.ite (fun h3 => ?_) (fun h3=>EvB.no bad (fun p=>h3 p.2.2.1))) (fun h2=>EvB.no bad (fun p=>h2 (by rw[p.2.1])))
 refine EvB.ite (fun h6=>EvB.no bad (fun p=>absurd p.2.2.2.2.1.2.1 (by omega))) (fun h6 => ?_)
 refine EvB.at (Xa5 q s s8) ?_
 cases h4:okB q 0 s
 ·exact EvB.no bad (fun p=>by rw[p.2.2.2.1] at h4;exact Bool.noConfusion h4)
 ·refine EvB.shift ?_
  simp only[Bool.not_true,Xc.j0,Bool.false_eq_true,if_false]
  refine(EvB.each c (R:=fun i x=>callP t.length tm x) (Q:=(∀ (i:Nat) x,t[i]? = some x→thrP t.length x∧tcP (i:Int) x c)∧ordersP c o) (g:=fun i k=>Xc.l0 k (t.length:Int) c (c.length:Int) (i:Int) w d t tm c o q s) (fun _ => ?_) (fun i x hx hi hp hn => ?_) (fun i x hx hi hp hr r g => ?_)).iff ?_
  ·refine EvB.shift ?_
   simp only[Xc.l0,Int.lt_irrefl,if_false]
   exact Xbp w d t tm c o q s h0
  ·have c0:(0:Int)≤(i:Int):=by omega
   have c1:(i:Int)<(c.length:Int):=by omega
   have er:rd_T80 c (i:Int)=x:=getD_get hx
   refine Ev.shift ?_
   simp only[Xc.l0,c0,c1,if_true,er,implFrom_eq,Option.bind_some,decide_eq_true_eq,hww]
   by_cases g1:0≤x.f0∧x.f0≤(t.length:Int) - 1
   ·refine Ev.pos g1 (Ev.bind (XaT _ _ _) ?_)
    by_cases g2:opP x.f1
    ·refine Ev.pos g2 ?_
     by_cases g3:0≤x.f2∧x.f2≤tm
     ·refine Ev.pos g3 (EvB.then_ (when_eq x x.f3 tm w d t c o q s) (fun g4=>Ev.pos rfl ?_) (fun g4=>Ev.neg (by decide) (Ev.now _)))
      exact Ev.bind ((when_eq x x.f4 tm w d t c o q s).nval (fun g5=>hn ⟨g1,g2,g3,g4,g5⟩)) (Ev.neg (by decide) (Ev.now _))
     ·exact Ev.neg g3 (Ev.now _)
    ·exact Ev.neg g2 (Ev.now _)
   ·exact Ev.neg g1 (Ev.now _)
  ·have c0:(0:Int)≤(i:Int):=by omega
   have c1:(i:Int)<(c.length:Int):=by omega
   have er:rd_T80 c (i:Int)=x:=getD_get hx
   obtain⟨g1,g2,g3,g4,g5⟩:=hr
   refine Ev.shift ?_
   simp only[Xc.l0,c0,c1,if_true,er,implFrom_eq,Option.bind_some,decide_eq_true_eq,hww,succ64 hi (by omega)]
   exact Ev.pos g1 (Ev.bind (XaT _ _ _) (Ev.pos g2 (Ev.pos g3 (Ev.bind ((when_eq x x.f3 tm w d t c o q s).val g4) (Ev.pos rfl (Ev.bind ((when_eq x x.f4 tm w d t c o q s).val g5) (Ev.pos rfl g)))))))
  ·rw[each_mem]
   exact⟨fun a=>⟨h1,by omega,h3,h4,⟨a.1,by omega,a.2.2⟩,a.2.1⟩,fun a=>⟨a.2.2.2.2.1.1,a.2.2.2.2.2,a.2.2.2.2.1.2.2⟩⟩
def PureFnStarts:Prop:=∀ (x0:List Int),(x0.length≤9223372036854775807∧∀ y ∈ x0,(Lit.int .u8 y).wf=true)→∃ k,X1.f k x0=some true
theorem push_ev {τ σ ρ:Type} (xs:List τ) (c:τ→σ) {g:Nat→List σ→Int→Option ρ} {r:ρ} (hend:Ev (fun k=>g k (xs.map c) (xs.length:Int)) r)
  (hstep:∀ (out:List σ) (i:Nat) (x:τ),xs[i]? = some x→i<xs.length→out.length=i→Ev (fun k=>g k (out ++ [c x]) ((i+1:Nat):Int)) r→Ev (fun k=>g k out (i:Int)) r):Ev (fun k=>g k [] 0) r:=by
 have h:=back (n:=xs.length) (Q:=fun i=>Ev (fun k=>g k ((xs.take i).map c) (i:Int)) r) (by rw[List.take_length];exact hend) (fun i hi h => ?_) 0 (Nat.zero_le _)
 ·simpa using h
 ·refine hstep _ i xs[i] (List.getElem?_eq_getElem hi) hi (by rw[List.length_map,List.length_take];omega) ?_
  rw[List.take_succ_eq_append_getElem hi,List.map_append] at h
  exact h
def newWord (n:Int):mW:=⟨n,0,0⟩
def newThread (l:List mO):mT:=⟨l,0,false,[],[]⟩
noncomputable def newWs (h:List Int) (s:Int):List mW:=(wds h s).map newWord
def newDs (n:Nat):List mD:=List.replicate n z58
theorem wds_le (h:List Int) (s:Int):(wds h s).length≤20:=by
 rcases wds_len h s with e | e
 ·omega
 ·rw[e];exact Nat.zero_le _
theorem smD_new (n:Nat):smD (newDs n):=fun x hx=>by
 rw[(List.mem_replicate.mp hx).2]
 decide
open Classical in
noncomputable def memNew (h:List Int) (s:Int) (n:Nat):List mW × List mD × Bool:=if (1≤n∧n≤4)∧memP (newWs h s) (newDs n) then (newWs h s,newDs n,true) else ([],[],false)
theorem memNew_yes {h:List Int} {s:Int} {n:Nat} (a:1≤n∧n≤4) (b:memP (newWs h s) (newDs n)):memNew h s n=(newWs h s,newDs n,true):=if_pos ⟨a,b⟩
theorem memNew_no {h:List Int} {s:Int} {n:Nat} (a:¬ ((1≤n∧n≤4)∧memP (newWs h s) (newDs n))):memNew h s n=([],[],false):=if_neg a
theorem Xbl (h:List Int) (s:Int) (n:Nat) (hl:h.length≤1048576) (hn:n≤1048576):Ev (fun k=>X0.f k h s (n:Int)) (memNew h s n):=by
 simp only[X0.f,implFrom_eq,Option.bind_some]
 by_cases a:1≤n∧n≤4
 ·have d1:decide (1≤(n:Int)∧(n:Int)≤4)=true:=decide_eq_true (by omega)
  have d2:0≤(n:Int):=by omega
  have d3:n≤3909374676536:=by omega
  simp only[d1,d2,d3,if_true,Int.toNat_natCast]
  refine Ev.bind (XaZ h s hl) ?_
  have hw:=wds_le h s
  refine push_ev (wds h s) newWord (g:=fun k out i=>X0.l0 k (wds h s) ((wds h s).length:Int) i out (List.replicate n z58)) ?_ ?_
  ·refine Ev.shift ?_
   simp only[X0.l0,Int.lt_irrefl,if_false]
   obtain⟨b,hb,hbp⟩:=Xbc (newWs h s) (newDs n) (by simp only[newWs,List.length_map];omega) (by simp only[newDs,List.length_replicate];omega) (smD_new n)
   refine Ev.bind hb ?_
   cases b with
   | true =>
    simp only[if_true]
    exact(Ev.now _).to (memNew_yes a (hbp.1 rfl)).symm
   | false =>
    simp only[Bool.false_eq_true,if_false]
    exact(Ev.now _).to (memNew_no (fun c=>by cases hbp.2 c.2)).symm
  ·intro out i x hx hi ho hh
   refine Ev.shift ?_
   have e1:(i:Int)<((wds h s).length:Int):=by omega
   have e2:(0:Int)≤(i:Int):=by omega
   have e3:out.length<5864062014805:=by omega
   have e4:rd (wds h s) (i:Int)=x:=rd_get hx
   simp only[X0.l0,e1,e2,e3,e4,if_true,succ64 hi (by omega)]
   exact hh
 ·have d1:decide (1≤(n:Int)∧(n:Int)≤4)=false:=decide_eq_false (by omega)
  simp only[d1,Bool.false_eq_true,if_false]
  exact(Ev.now _).to (memNew_no (fun c=>a c.1)).symm
theorem Xbm (h:List Int) (s:Int) (n:Nat) (hl:h.length≤1048576) (hn:n≤1048576):Ev (fun k=>XG.f k h s (n:Int)) (memNew h s n):=by
 simp only[XG.f]
 refine Ev.bind (Xbg h s hl) ?_
 have hw:=wds_le h s
 refine push_ev (wds h s) newWord (g:=fun k out i=>XG.l0 k (n:Int) (wds h s) i out) ?_ ?_
 ·refine Ev.shift ?_
  simp only[XG.l0,Int.lt_irrefl,if_false,specIn_eq,Option.bind_some]
  by_cases a:1≤n∧n≤4
  ·have d1:decide (1≤(n:Int)∧(n:Int)≤4)=true:=decide_eq_true (by omega)
   have d2:0≤(n:Int):=by omega
   have d3:n≤3909374676536:=by omega
   simp only[d1,d2,d3,if_true,Int.toNat_natCast]
   obtain⟨b,hb,hbp⟩:=XaV (newWs h s) (newDs n) (by simp only[newWs,List.length_map];omega) (by simp only[newDs,List.length_replicate];omega) (smD_new n)
   refine Ev.bind hb ?_
   cases b with
   | true =>
    simp only[if_true]
    exact(Ev.now _).to (memNew_yes a (hbp.1 rfl)).symm
   | false =>
    simp only[Bool.false_eq_true,if_false]
    exact(Ev.now _).to (memNew_no (fun c=>by cases hbp.2 c.2)).symm
  ·have d1:decide (1≤(n:Int)∧(n:Int)≤4)=false:=decide_eq_false (by omega)
   simp only[d1,Bool.false_eq_true,if_false]
   obtain⟨b,hb,hbp⟩:=XaV (newWs h s) [] (by simp only[newWs,List.length_map];omega) (by simp) (fun x hx=>by cases hx)
   refine Ev.bind hb ?_
   cases b with
   | true =>
    have:=(hbp.1 rfl).1.2.1
    simp at this
   | false =>
    simp only[Bool.false_eq_true,if_false]
    exact(Ev.now _).to (memNew_no (fun c=>a c.1)).symm
 ·intro out i x hx hi ho hh
  refine Ev.shift ?_
  have e1:(i:Int)<((wds h s).length:Int):=by omega
  have e2:(0:Int)≤(i:Int):=by omega
  have e3:out.length<5864062014805:=by omega
  have e4:rd (wds h s) (i:Int)=x:=rd_get hx
  simp only[XG.l0,e1,e2,e3,e4,if_true,succ64 hi (by omega)]
  exact hh
abbrev mM9:=List mW × List mD × List mT × Int × List mC × List Int × List Int × Int × Bool
def newTs (l:List (List mO)):List mT:=l.map newThread
def okNew (h:List Int) (s:Int) (l:List (List mO)):Prop:=((1≤l.length∧l.length≤4)∧memP (newWs h s) (newDs l.length))∧machP (newWs h s) (newDs l.length) (newTs l) 0 [] [] h s
open Classical in
noncomputable def machNew (h:List Int) (s:Int) (l:List (List mO)):mM9:=if okNew h s l then (newWs h s,newDs l.length,newTs l,0,[],[],h,s,true) else ([],[],[],0,[],[],[],0,false)
theorem machNew_yes {h:List Int} {s:Int} {l:List (List mO)} (a:okNew h s l):machNew h s l=(newWs h s,newDs l.length,newTs l,0,[],[],h,s,true):=if_pos a
theorem machNew_no {h:List Int} {s:Int} {l:List (List mO)} (a:¬ okNew h s l):machNew h s l=([],[],[],0,[],[],[],0,false):=if_neg a
theorem smM_new (h:List Int) (s:Int) (l:List (List mO)) (hh:h.length≤1048576) (hl:l.length≤1048576) (hs:∀ x ∈ l,x.length≤1048576):smM (newWs h s) (newDs l.length) (newTs l) [] [] h:=by
 have hw:=wds_le h s
 refine⟨by simp only[newWs,List.length_map];omega,by simp only[newDs,List.length_replicate];omega,smD_new _,by simp only[newTs,List.length_map];omega,fun x hx => ?_,by simp,by simp,by omega⟩
 obtain⟨y,hy,rfl⟩:=List.mem_map.mp hx
 exact⟨hs y hy,by simp[newThread],by simp[newThread]⟩
theorem implThreadNew_eq (l:List mO) (h:l.length≤1048576):Xav.f l=some (l,0,false,[],[]):=by
 unfold Xav.f XaQ.f
 rw[if_pos (by omega),Option.bind_some]
theorem specThreadNew_eq (l:List mO) (h:l.length≤1048576):Xau.f l=some (l,0,false,[],[]):=by
 simp only[Xau.f,Option.bind_some,List.length_nil,Nat.zero_add,List.nil_append]
 rw[if_pos (by omega)]
theorem implCopyRows_eq (h:List Int) (s:Int) (hh:h.length≤1048576):Xab.f h s=some (h,s):=by
 simp only[Xab.f,slices_Clone_int_int.f]
 rw[if_pos (by omega)]
 rfl
theorem specL3Copy_eq (h:List Int) (s:Int) (hh:h.length≤1048576):X4.f h s=some (h,s):=by
 simp only[X4.f,Option.bind_some,List.length_nil,Nat.zero_add,List.nil_append]
 rw[if_pos (by omega)]
theorem Xbd (h:List Int) (s:Int) (l:List (List mO)) (hh:h.length≤1048576) (hl:l.length≤1048576) (hs:∀ x ∈ l,x.length≤1048576):Ev (fun k=>Xw.f k h s l) (machNew h s l):=by
 simp only[Xw.f,implCopyRows_eq h s hh,Option.bind_some]
 refine Ev.bind (Xbl h s l.length hh hl) ?_
 refine push_ev l newThread (g:=fun k out i=>Xw.l0 k (memNew h s l.length).2.2 l (l.length:Int) i (memNew h s l.length).1 (memNew h s l.length).2.1 out 0 h s) ?_ ?_
 ·refine Ev.shift ?_
  simp only[Xw.l0,Int.lt_irrefl,if_false]
  by_cases a:(1≤l.length∧l.length≤4)∧memP (newWs h s) (newDs l.length)
  ·rw[memNew_yes a.1 a.2]
   simp only[if_true]
   obtain⟨b,hb,hbp⟩:=XaW (newWs h s) (newDs l.length) (newTs l) 0 [] [] h s (smM_new h s l hh hl hs)
   refine Ev.bind hb ?_
   cases b with
   | true =>
    simp only[if_true]
    exact(Ev.now _).to (machNew_yes ⟨a,hbp.1 rfl⟩).symm
   | false =>
    simp only[Bool.false_eq_true,if_false]
    exact(Ev.now _).to (machNew_no (fun c=>by cases hbp.2 c.2)).symm
  ·rw[memNew_no a]
   simp only[Bool.false_eq_true,if_false]
   exact(Ev.now _).to (machNew_no (fun c=>a c.1)).symm
 ·intro out i x hx hi ho h2
  refine Ev.shift ?_
  have e1:(i:Int)<(l.length:Int):=by omega
  have e2:(0:Int)≤(i:Int):=by omega
  have e3:out.length<1599289640401:=by omega
  have e4:rd_L3 l (i:Int)=x:=getD_get hx
  simp only[Xw.l0,e1,e2,e3,e4,if_true,implThreadNew_eq x (hs x (List.mem_of_getElem? hx)),Option.bind_some,succ64 hi (by omega)]
  exact h2
theorem Xbe (h:List Int) (s:Int) (l:List (List mO)) (hh:h.length≤1048576) (hl:l.length≤1048576) (hs:∀ x ∈ l,x.length≤1048576):Ev (fun k=>Xv.f k h s l) (machNew h s l):=by
 simp only[Xv.f,specL3Copy_eq h s hh,Option.bind_some]
 refine Ev.bind (Xbm h s l.length hh hl) ?_
 refine push_ev l newThread (g:=fun k out i=>Xv.l0 k l (memNew h s l.length).2.2 i (memNew h s l.length).1 (memNew h s l.length).2.1 out 0 h s) ?_ ?_
 ·refine Ev.shift ?_
  simp only[Xv.l0,Int.lt_irrefl,if_false]
  by_cases a:(1≤l.length∧l.length≤4)∧memP (newWs h s) (newDs l.length)
  ·rw[memNew_yes a.1 a.2]
   simp only[if_true]
   obtain⟨b,hb,hbp⟩:=Xbf (newWs h s) (newDs l.length) (newTs l) 0 [] [] h s (smM_new h s l hh hl hs)
   refine Ev.bind hb ?_
   cases b with
   | true =>
    simp only[if_true]
    exact(Ev.now _).to (machNew_yes ⟨a,hbp.1 rfl⟩).symm
   | false =>
    simp only[Bool.false_eq_true,if_false]
    exact(Ev.now _).to (machNew_no (fun c=>by cases hbp.2 c.2)).symm
  ·rw[memNew_no a]
   simp only[Bool.false_eq_true,if_false]
   exact(Ev.now _).to (machNew_no (fun c=>a c.1)).symm
 ·intro out i x hx hi ho h2
  refine Ev.shift ?_
  have e1:(i:Int)<(l.length:Int):=by omega
  have e2:(0:Int)≤(i:Int):=by omega
  have e3:out.length<1599289640401:=by omega
  have e4:rd_L3 l (i:Int)=x:=getD_get hx
  simp only[Xv.l0,e1,e2,e3,e4,if_true,specThreadNew_eq x (hs x (List.mem_of_getElem? hx)),Option.bind_some,succ64 hi (by omega)]
  exact h2
end Go.Proofs.YthejoblnfpaojaaGreat.P
