/- A part of the proof of the law FnExactMachineNew: texts of this seat, merged (words, printed functions of the program, plain lemmas). Conditions: none of its own. -/
import Derived.Test.YtmljebgideecjaaGreatP2kFnExactMachineNew38
set_option linter.unusedSimpArgs false
set_option linter.unusedVariables false
set_option maxHeartbeats 8000000
set_option maxRecDepth 100000
namespace Go.Proofs.YtmljebgideecjaaGreat.P2
open Go.RowKit Go.Proofs.YtmljebgideecjaaGreatW.PrintWords Go.Proofs.YtmljebgideecjaaGreatW.PrintLast Go.Proofs.YtmljebgideecjaaGreatZ
abbrev mC:=S73
def callP (n:Int) (tm:Int) (x:mC):Prop:=(0≤x.f0∧x.f0≤n - 1)∧opP x.f1∧(0≤x.f2∧x.f2≤tm)∧(x.f3 = -1 ∨ (x.f2≤x.f3∧x.f3≤tm))∧(x.f4 = -1 ∨ (x.f2≤x.f4∧x.f4≤tm))
theorem Xbv (w:List mW) (d:List mD) (t:List mT) (tm:Int) (c:List mC) (p q:List Int) (s:Int) (x:mC) (ht:t.length≤1048576) :
  EvB (fun k=>XaT.f k w d t tm c p q s x.f0 x.f1.f0 x.f1.f1 x.f1.f2 x.f2 x.f3 x.f4 x.f5.f0 x.f5.f1) (callP t.length tm x):=by
 have hww:wrap64 ((t.length:Int) - 1)=(t.length:Int) - 1:=w64 (by omega) (by omega)
 simp only[XaT.f,specIn_eq,Option.bind_some,decide_eq_true_eq,hww]
 refine EvB.ite (fun h1 => ?_) (fun h1=>EvB.no (Ev.now _) (fun p=>h1 p.1))
 refine EvB.at (Xbg _ _ _) ?_
 refine EvB.ite (fun h2 => ?_) (fun h2=>EvB.no (Ev.now _) (fun p=>h2 p.2.1))
 refine EvB.ite (fun h3 => ?_) (fun h3=>EvB.no (Ev.now _) (fun p=>h3 p.2.2.1))
 refine EvB.ite (fun h4=>EvB.ite (fun h5=>EvB.yes (Ev.now _) ⟨h1,h2,h3,.inl h4,.inl h5⟩) (fun h5=>EvB.now ?_)) (fun h4=>EvB.ite (fun h5=>EvB.ite (fun h6=>EvB.yes (Ev.now _) ⟨h1,h2,h3,.inr h5,.inl h6⟩) (fun h6=>EvB.now ?_)) (fun h5=>EvB.no (Ev.now _) (fun p=>p.2.2.2.1.elim h4 h5)))
 ·rw[decide_eq_true_iff]
  exact⟨fun a=>⟨h1,h2,h3,.inl h4,.inr a⟩,fun a=>a.2.2.2.2.elim (fun b=>absurd b h5) id⟩
 ·rw[decide_eq_true_iff]
  exact⟨fun a=>⟨h1,h2,h3,.inr h5,.inr a⟩,fun a=>a.2.2.2.2.elim (fun b=>absurd b h6) id⟩
def cntC (R:mC→Bool) (c:List mC):Nat→Nat
 | 0=>0
 | i+1=>cntC R c i+(if R (rd_T73 c (i:Int))=true then 1 else 0)
theorem cntC_le (R:mC→Bool) (c:List mC):∀ i,cntC R c i≤i
 | 0=>Nat.le_refl _
 | i+1=>by
  have:=cntC_le R c i
  simp only[cntC]
  split<;>omega
def soC (x:mC):Bool:=decide (x.f3 ≥ 0)
def ordP (c:List mC) (o:List Int) (i:Nat):Prop:=(0≤rd o (i:Int)∧rd o (i:Int)≤(c.length:Int) - 1)∧¬ (rd_T73 c (rd o (i:Int))).f3<0∧¬ dup o i∧(0<i→¬ (rd_T73 c (rd o ((i:Int) - 1))).f3 > (rd_T73 c (rd o (i:Int))).f3)
def ordersP (c:List mC) (o:List Int):Prop:=(∀ i,i<o.length→ordP c o i)∧cntC soC c c.length=o.length
theorem Xbm (w:List mW) (d:List mD) (t:List mT) (tm:Int) (c:List mC) (o q:List Int) (s:Int) (x3:Int) (i:Nat) (hi:i<o.length) (ho:o.length≤1048576) (r:Bool)
  (h:¬ dup o i→Ev (fun k=>Xa.l1 k x3 ((i+1:Nat):Int) w d t tm c o q s) r) (h':dup o i→r=false):Ev (fun k=>Xa.l2 k x3 (i:Int) (rd o (i:Int)) 0 w d t tm c o q s) r:=by
 have key:∀ m j,j+m=i→(∀ a,a<j→rd o (a:Int) ≠ rd o (i:Int))→Ev (fun k=>Xa.l2 k x3 (i:Int) (rd o (i:Int)) (j:Int) w d t tm c o q s) r:=by
  intro m
  induction m with
  | zero =>
   intro j hj hp
   obtain rfl:j=i:=by omega
   refine Ev.shift ?_
   simp only[Xa.l2,Int.lt_irrefl,if_false,succ64 hi (by omega)]
   exact h fun⟨a,ha,e⟩=>hp a ha e
  | succ m ih =>
   intro j hj hp
   have c0:(0:Int)≤(j:Int):=by omega
   have c1:(j:Int)<(i:Int):=by omega
   have c2:(j:Int)<(o.length:Int):=by omega
   refine Ev.shift ?_
   simp only[Xa.l2,c0,c1,c2,if_true,succ64 (show j<o.length by omega) (by omega)]
   by_cases e:rd o (j:Int)=rd o (i:Int)
   ·exact Ev.pos e (Ev.val (h' ⟨j,by omega,e⟩).symm)
   ·refine Ev.neg e (ih (j+1) (by omega) (fun a ha => ?_))
    rcases Nat.lt_succ_iff_lt_or_eq.mp ha with b | b
    ·exact hp a b
    ·rw[b];exact e
 exact key i 0 (by omega) (fun a ha=>absurd ha (Nat.not_lt_zero _))
theorem XbJ (w:List mW) (d:List mD) (t:List mT) (tm:Int) (c:List mC) (o q:List Int) (s:Int) (ho:o.length≤1048576) (hc:c.length≤1048576) (z:Nat) :
  EvB (fun k=>Xa.l1 k (z:Int) 0 w d t tm c o q s) ((∀ i,i<o.length→ordP c o i)∧c.length≤40∧z=o.length):=by
 have hww:wrap64 ((c.length:Int) - 1)=(c.length:Int) - 1:=w64 (by omega) (by omega)
 refine EvB.loop (n:=o.length) (P:=ordP c o) (g:=fun i k=>Xa.l1 k (z:Int) (i:Int) w d t tm c o q s) (fun _ => ?_) (fun i hi hp hn => ?_) (fun i hi hp hr r h => ?_)
 ·refine EvB.shift ?_
  simp only[Xa.l1,Int.lt_irrefl,if_false]
  refine EvB.ite (fun h1=>EvB.now ?_) (fun h1=>EvB.no (Ev.now _) (fun p=>absurd p.1 (by omega)))
  rw[beq_iff_eq];omega
 ·have c0:(0:Int)≤(i:Int):=by omega
  have c1:(i:Int)<(o.length:Int):=by omega
  refine Ev.shift ?_
  simp only[Xa.l1,c0,c1,if_true,specIn_eq,Option.bind_some,decide_eq_true_eq,hww]
  have bad:Ev (fun k=>Xa.j2 k (z:Int) (i:Int) (rd o (i:Int)) true w d t tm c o q s) false:=Ev.shift (by simp only[Xa.j2,if_true];exact Ev.now _)
  by_cases h1:0≤rd o (i:Int)∧rd o (i:Int)≤(c.length:Int) - 1
  ·refine Ev.pos h1 (Ev.pos h1.1 (Ev.pos (by omega) ?_))
   by_cases h2:(rd_T73 c (rd o (i:Int))).f3<0
   ·exact Ev.pos h2 bad
   ·refine Ev.neg h2 ?_
    have go:(0<i→¬ (rd_T73 c (rd o ((i:Int) - 1))).f3 > (rd_T73 c (rd o (i:Int))).f3)→Ev (fun k=>Xa.j2 k (z:Int) (i:Int) (rd o (i:Int)) false w d t tm c o q s) false:=fun h4=>by
     refine Ev.shift ?_
     simp only[Xa.j2,Bool.false_eq_true,if_false]
     exact Xbm w d t tm c o q s z i hi ho false (fun h3=>absurd ⟨h1,h2,h3,h4⟩ hn) (fun _=>rfl)
    by_cases h5:(i:Int) > 0
    ·have e1:wrap64 ((i:Int) - 1)=(i:Int) - 1:=w64 (by omega) (by omega)
     have e2:(0:Int)≤(i:Int) - 1:=by omega
     have e3:(i:Int) - 1<(o.length:Int):=by omega
     have e4:=(hp (i - 1) (by omega)).1
     rw[show ((i - 1:Nat):Int)=(i:Int) - 1 by omega] at e4
     refine Ev.pos h5 ?_
     simp only[e1]
     refine Ev.pos e2 (Ev.pos e3 (Ev.pos e4.1 (Ev.pos (by omega) ?_)))
     by_cases h6:(rd_T73 c (rd o ((i:Int) - 1))).f3 > (rd_T73 c (rd o (i:Int))).f3
     ·simp only[h6,decide_true]
      exact bad
     ·simp only[h6,decide_false]
      exact go fun _=>h6
    ·exact Ev.neg h5 (go fun a=>absurd a (by omega))
  ·exact Ev.neg h1 bad
 ·have c0:(0:Int)≤(i:Int):=by omega
  have c1:(i:Int)<(o.length:Int):=by omega
  obtain⟨h1,h2,h3,h4⟩:=hr
  refine Ev.shift ?_
  simp only[Xa.l1,c0,c1,if_true,specIn_eq,Option.bind_some,decide_eq_true_eq,hww]
  have go:Ev (fun k=>Xa.j2 k (z:Int) (i:Int) (rd o (i:Int)) false w d t tm c o q s) r:=by
   refine Ev.shift ?_
   simp only[Xa.j2,Bool.false_eq_true,if_false]
   exact Xbm w d t tm c o q s z i hi ho r (fun _=>h) (fun a=>absurd a h3)
  refine Ev.pos h1 (Ev.pos h1.1 (Ev.pos (by omega) (Ev.neg h2 ?_)))
  by_cases h5:(i:Int) > 0
  ·have e1:wrap64 ((i:Int) - 1)=(i:Int) - 1:=w64 (by omega) (by omega)
   have e2:(0:Int)≤(i:Int) - 1:=by omega
   have e3:(i:Int) - 1<(o.length:Int):=by omega
   have e4:=(hp (i - 1) (by omega)).1
   rw[show ((i - 1:Nat):Int)=(i:Int) - 1 by omega] at e4
   have h6:=h4 (by omega)
   refine Ev.pos h5 ?_
   simp only[e1,h6,decide_false]
   exact Ev.pos e2 (Ev.pos e3 (Ev.pos e4.1 (Ev.pos (by omega) go)))
  ·exact Ev.neg h5 go
theorem XbE (w:List mW) (d:List mD) (t:List mT) (tm:Int) (c:List mC) (o q:List Int) (s:Int) (ht:t.length≤1048576) (hc:c.length≤1048576) (ho:o.length≤1048576) :
  EvB (fun k=>Xa.f k w d t tm c o q s) ((∀ x ∈ c,callP t.length tm x)∧c.length≤40∧ordersP c o):=by
 simp only[Xa.f]
 refine(EvB.each c (R:=fun _ x=>callP t.length tm x) (Q:=(∀ i,i<o.length→ordP c o i)∧c.length≤40∧cntC soC c c.length=o.length) (g:=fun i k=>Xa.l0 k (cntC soC c i:Int) (i:Int) w d t tm c o q s) (fun _ => ?_) (fun i x hx hi hp hn => ?_) (fun i x hx hi hp hr r h => ?_)).iff ?_
 ·refine EvB.shift ?_
  simp only[Xa.l0,Int.lt_irrefl,if_false]
  exact XbJ w d t tm c o q s ho hc _
 ·have c0:(0:Int)≤(i:Int):=by omega
  have c1:(i:Int)<(c.length:Int):=by omega
  have er:rd_T73 c (i:Int)=x:=getD_get hx
  refine Ev.shift ?_
  simp only[Xa.l0,c0,c1,if_true,er]
  exact Ev.bind ((Xbv w d t tm c o q s x ht).nval hn) (Ev.neg (by decide) (Ev.now _))
 ·have c0:(0:Int)≤(i:Int):=by omega
  have c1:(i:Int)<(c.length:Int):=by omega
  have er:rd_T73 c (i:Int)=x:=getD_get hx
  have hle:=cntC_le soC c i
  refine Ev.shift ?_
  simp only[Xa.l0,c0,c1,if_true,er]
  refine Ev.bind ((Xbv w d t tm c o q s x ht).val hr) (Ev.pos rfl ?_)
  simp only[cntC,er] at h
  by_cases h5:x.f3 ≥ 0
  ·have e1:wrap64 ((cntC soC c i:Int)+1)=((cntC soC c i+1:Nat):Int):=by rw[w64 (by omega) (by omega)];omega
   have e2:soC x=true:=by unfold soC;rw[decide_eq_true_iff];exact h5
   simp only[e2,if_true] at h
   simp only[h5,decide_true,Xat.f,if_true,Option.bind_some,e1,succ64 hi (by omega)]
   exact h
  ·have e1:wrap64 ((cntC soC c i:Int)+0)=((cntC soC c i:Nat):Int):=by rw[w64 (by omega) (by omega)];omega
   have e2:¬ soC x=true:=by unfold soC;rw[decide_eq_true_iff];exact h5
   simp only[e2,if_false,Nat.add_zero] at h
   simp only[h5,decide_false,Xat.f,if_false,Bool.false_eq_true,Option.bind_some,e1,succ64 hi (by omega)]
   exact h
 ·rw[each_mem]
  exact⟨fun p=>⟨p.1,p.2.2.1,p.2.1,p.2.2.2⟩,fun p=>⟨p.1,p.2.2.1,p.2.1,p.2.2.2⟩⟩
theorem contains_ev (x:List Int) (hl:x.length≤1048576) (v:Int):EvB (fun k=>slices_Contains_int_int.f k x v) (∃ j:Nat,j<x.length∧rd x (j:Int)=v):=by
 obtain⟨r,q1,q2,q3⟩:=first_ev x (fun y=>y=v) (g:=fun i k=>slices_Index_int_int.l0 k x v (x.length:Int) (i:Int)) (by
  refine Ev.shift ?_
  simp only[slices_Index_int_int.l0,Int.lt_irrefl,if_false]
  exact Ev.now _) (fun i y hx hi hn=>by
  have c0:(0:Int)≤(i:Int):=by omega
  have c1:(i:Int)<(x.length:Int):=by omega
  have er:rd x (i:Int)=y:=rd_get hx
  refine Ev.shift ?_
  simp only[slices_Index_int_int.l0,c0,c1,if_true,er]
  exact Ev.pos hn.symm (Ev.now _)) (fun i y hx hi hn r h=>by
  have c0:(0:Int)≤(i:Int):=by omega
  have c1:(i:Int)<(x.length:Int):=by omega
  have er:rd x (i:Int)=y:=rd_get hx
  refine Ev.shift ?_
  simp only[slices_Index_int_int.l0,c0,c1,if_true,er,succ64 hi (by omega)]
  exact Ev.neg (fun a=>hn a.symm) h)
 refine⟨decide (r ≥ 0),?_,?_⟩
 ·simp only[slices_Contains_int_int.f,slices_Index_int_int.f]
  exact Ev.bind q1 (Ev.now _)
 ·rw[decide_eq_true_iff,q3]
  constructor
  ·rintro⟨y,hy,rfl⟩
   obtain⟨j,hj,e⟩:=List.mem_iff_getElem.mp hy
   exact⟨j,hj,by rw[← e];exact rd_get (List.getElem?_eq_getElem hj)⟩
  ·rintro⟨j,hj,e⟩
   refine⟨v,?_,rfl⟩
   rw[← e,show rd x (j:Int)=x[j] from rd_get (List.getElem?_eq_getElem hj)]
   exact List.getElem_mem hj
theorem dup_take {o:List Int} {i:Nat} (hi:i<o.length):(∃ j:Nat,j<(o.take i).length∧rd (o.take i) (j:Int)=rd o (i:Int)) ↔ dup o i:=by
 have hl:(o.take i).length=i:=by rw[List.length_take];omega
 rw[hl]
 constructor
 ·rintro⟨j,hj,e⟩
  exact⟨j,hj,by rw[← rd_take o hj (by omega)];exact e⟩
 ·rintro⟨j,hj,e⟩
  exact⟨j,hj,by rw[rd_take o hj (by omega)];exact e⟩
theorem XbK (w:List mW) (d:List mD) (t:List mT) (tm:Int) (c:List mC) (o q:List Int) (s:Int) (ho:o.length≤1048576) (hc:c.length≤1048576) (z:Nat) :
  EvB (fun k=>Xe.l1 k (z:Int) o (o.length:Int) 0 w d t tm c o q s) ((∀ i,i<o.length→ordP c o i)∧z=o.length):=by
 have hww:wrap64 ((c.length:Int) - 1)=(c.length:Int) - 1:=w64 (by omega) (by omega)
 refine EvB.loop (n:=o.length) (P:=ordP c o) (g:=fun i k=>Xe.l1 k (z:Int) o (o.length:Int) (i:Int) w d t tm c o q s) (fun _ => ?_) (fun i hi hp hn => ?_) (fun i hi hp hr r h => ?_)
 ·refine EvB.shift ?_
  simp only[Xe.l1,Int.lt_irrefl,if_false]
  refine EvB.now ?_
  rw[beq_iff_eq];omega
 ·have c0:(0:Int)≤(i:Int):=by omega
  have c1:(i:Int)<(o.length:Int):=by omega
  have c2:(i:Int)≤(o.length:Int):=by omega
  refine Ev.shift ?_
  simp only[Xe.l1,c0,c1,c2,if_true,implFrom_eq,Option.bind_some,decide_eq_true_eq,hww,Int.toNat_natCast]
  by_cases h1:0≤rd o (i:Int)∧rd o (i:Int)≤(c.length:Int) - 1
  ·refine Ev.pos h1 (Ev.pos h1.1 (Ev.pos (by omega) ?_))
   by_cases h2:(rd_T73 c (rd o (i:Int))).f3<0
   ·exact Ev.pos h2 (Ev.now _)
   ·refine Ev.neg h2 ?_
    refine EvB.then_ (contains_ev (o.take i) (by rw[List.length_take];omega) (rd o (i:Int))) (fun h3=>Ev.pos rfl (Ev.now _)) (fun h3=>Ev.neg (by decide) ?_)
    rw[dup_take hi] at h3
    by_cases h5:(i:Int) > 0
    ·have e1:wrap64 ((i:Int) - 1)=(i:Int) - 1:=w64 (by omega) (by omega)
     have e2:(0:Int)≤(i:Int) - 1:=by omega
     have e3:(i:Int) - 1<(o.length:Int):=by omega
     have e4:=(hp (i - 1) (by omega)).1
     rw[show ((i - 1:Nat):Int)=(i:Int) - 1 by omega] at e4
     refine Ev.pos h5 ?_
     simp only[e1]
     refine Ev.pos e2 (Ev.pos e3 (Ev.pos e4.1 (Ev.pos (by omega) ?_)))
     by_cases h6:(rd_T73 c (rd o ((i:Int) - 1))).f3 > (rd_T73 c (rd o (i:Int))).f3
     ·exact Ev.pos h6 (Ev.now _)
     ·exact absurd ⟨h1,h2,h3,fun _=>h6⟩ hn
    ·exact absurd ⟨h1,h2,h3,fun a=>absurd a (by omega)⟩ hn
  ·exact Ev.neg h1 (Ev.now _)
 ·have c0:(0:Int)≤(i:Int):=by omega
  have c1:(i:Int)<(o.length:Int):=by omega
  have c2:(i:Int)≤(o.length:Int):=by omega
  obtain⟨h1,h2,h3,h4⟩:=hr
  rw[← dup_take hi] at h3
  refine Ev.shift ?_
  simp only[Xe.l1,c0,c1,c2,if_true,implFrom_eq,Option.bind_some,decide_eq_true_eq,hww,Int.toNat_natCast,succ64 hi (by omega)]
  refine Ev.pos h1 (Ev.pos h1.1 (Ev.pos (by omega) (Ev.neg h2 ?_)))
  refine Ev.bind ((contains_ev (o.take i) (by rw[List.length_take];omega) (rd o (i:Int))).nval h3) (Ev.neg (by decide) ?_)
  by_cases h5:(i:Int) > 0
  ·have e1:wrap64 ((i:Int) - 1)=(i:Int) - 1:=w64 (by omega) (by omega)
   have e2:(0:Int)≤(i:Int) - 1:=by omega
   have e3:(i:Int) - 1<(o.length:Int):=by omega
   have e4:=(hp (i - 1) (by omega)).1
   rw[show ((i - 1:Nat):Int)=(i:Int) - 1 by omega] at e4
   refine Ev.pos h5 ?_
   simp only[e1]
   exact Ev.pos e2 (Ev.pos e3 (Ev.pos e4.1 (Ev.pos (by omega) (Ev.neg (h4 (by omega)) h))))
  ·exact Ev.neg h5 h
theorem XbF (w:List mW) (d:List mD) (t:List mT) (tm:Int) (c:List mC) (o q:List Int) (s:Int) (ho:o.length≤1048576) (hc:c.length≤1048576) :
  EvB (fun k=>Xe.f k w d t tm c o q s) (ordersP c o):=by
 simp only[Xe.f]
 refine(EvB.each c (R:=fun _ _=>True) (Q:=ordersP c o) (g:=fun i k=>Xe.l0 k (cntC soC c i:Int) c (c.length:Int) (i:Int) w d t tm c o q s) (fun _ => ?_) (fun i x hx hi hp hn=>absurd trivial hn) (fun i x hx hi hp hr r h => ?_)).iff ⟨fun a=>a.2,fun a=>⟨fun _ _ _=>trivial,a⟩⟩
 ·refine EvB.shift ?_
  simp only[Xe.l0,Int.lt_irrefl,if_false]
  exact XbK w d t tm c o q s ho hc _
 ·have c0:(0:Int)≤(i:Int):=by omega
  have c1:(i:Int)<(c.length:Int):=by omega
  have er:rd_T73 c (i:Int)=x:=getD_get hx
  have hle:=cntC_le soC c i
  refine Ev.shift ?_
  simp only[Xe.l0,c0,c1,if_true,er]
  simp only[cntC,er] at h
  by_cases h5:x.f3 ≥ 0
  ·have e1:wrap64 ((cntC soC c i:Int)+1)=((cntC soC c i+1:Nat):Int):=by rw[w64 (by omega) (by omega)];omega
   have e2:soC x=true:=by unfold soC;rw[decide_eq_true_iff];exact h5
   simp only[e2,if_true] at h
   simp only[h5,if_true,e1,succ64 hi (by omega)]
   exact h
  ·have e2:¬ soC x=true:=by unfold soC;rw[decide_eq_true_iff];exact h5
   simp only[e2,if_false,Nat.add_zero] at h
   simp only[h5,if_false,succ64 hi (by omega)]
   exact h
end Go.Proofs.YtmljebgideecjaaGreat.P2
