/- A part of the proof of the law FnExactMachineNew: texts of this seat, merged (words, printed functions of the program, plain lemmas). Conditions: none of its own. -/
import Derived.Test.YtmljebgideecjaaGreatP2kFnExactMachineNew39
import Derived.Test.YtmljebgideecjaaGreatP2kFnExactMachineNew40
set_option linter.unusedSimpArgs false
set_option linter.unusedVariables false
set_option maxHeartbeats 8000000
set_option maxRecDepth 100000
namespace Go.Proofs.YtmljebgideecjaaGreat.P2
open Go.RowKit Go.Proofs.YtmljebgideecjaaGreatW.PrintWords Go.Proofs.YtmljebgideecjaaGreatW.PrintLast Go.Proofs.YtmljebgideecjaaGreatZ
def PureFnExactMachineNew:Prop:=∀ (x0:S30) (x1:List (List (S116))),wf30 x0→(x1.length≤9223372036854775807∧∀ y ∈ x1,(y.length≤9223372036854775807∧∀ z ∈ y,wf116 z))→∃ k,XU.f k x0.f0 x0.f1 x1=some true
abbrev rdC (c:List mC) (i:Int):mC:=rd_T73 c i
theorem cntC_zero (R:mC→Bool) (c:List mC):∀ n,cntC R c n=0 ↔ ∀ i,i<n→¬ R (rdC c (i:Int))=true
 | 0=>iff_of_true rfl (fun i hi=>absurd hi (Nat.not_lt_zero _))
 | n+1=>by
  have ih:=cntC_zero R c n
  simp only[cntC]
  constructor
  ·intro h i hi
   by_cases e:i=n
   ·subst e
    intro hr
    rw[if_pos hr] at h
    omega
   ·exact ih.mp (by omega) i (by omega)
  ·intro h
   rw[ih.mpr (fun i hi=>h i (by omega)),if_neg (h n (by omega))]
theorem cntC_one (R:mC→Bool) (c:List mC) {m:Nat} (hm:R (rdC c (m:Int))=true):∀ n,m<n→(cntC R c n=1 ↔ ∀ i,i<n→R (rdC c (i:Int))=true→i=m)
 | 0,h=>absurd h (Nat.not_lt_zero _)
 | n+1,h=>by
  simp only[cntC]
  by_cases e:m=n
  ·subst e
   rw[if_pos hm]
   have z:=cntC_zero R c m
   constructor
   ·intro a i hi hr
    apply Classical.byContradiction
    intro hn
    exact z.mp (by omega) i (by omega) hr
   ·intro a
    rw[z.mpr (fun i hi hr=>by have:=a i (by omega) hr;omega)]
  ·have ih:=cntC_one R c hm n (by omega)
   have pos:cntC R c n ≠ 0:=fun a=>(cntC_zero R c n).mp a m (by omega) hm
   constructor
   ·intro a i hi hr
    by_cases f:i=n
    ·subst f
     rw[if_pos hr] at a
     omega
    ·refine ih.mp ?_ i (by omega) hr
     by_cases g:R (rdC c (n:Int))=true
     ·rw[if_pos g] at a;omega
     ·rw[if_neg g] at a;omega
   ·intro a
    have g:¬ R (rdC c (n:Int))=true:=fun g=>by have:=a n (by omega) g;omega
    rw[if_neg g,ih.mpr (fun i hi hr=>a i (by omega) hr)]
def lastC (c:List mC) (a:Int):Nat→Int
 | 0 => -1
 | i+1=>if (rdC c (i:Int)).f0=a then (i:Int) else lastC c a i
theorem lastC_in (c:List mC) (a:Int):∀ n,-1≤lastC c a n∧lastC c a n<(n:Int)∧(0≤lastC c a n→(rdC c (lastC c a n)).f0=a)
 | 0=>by simp only[lastC];omega
 | n+1=>by
  obtain⟨h1,h2,h3⟩:=lastC_in c a n
  simp only[lastC]
  split
  ·rename_i h;exact⟨by omega,by omega,fun _=>h⟩
  ·exact⟨h1,by omega,h3⟩
def endC (a:Int) (x:mC):Bool:=decide (x.f0=a∧x.f4 ≥ 0)
def opnC (a:Int) (x:mC):Bool:=decide (x.f0=a∧x.f4<0)
def opEq (u v:mO):Bool:=((u.f0) == (v.f0) && (((u.f1) == (v.f1)) && ((u.f2) == (v.f2))))
def nowC (x:mT) (c:List mC) (l:Int):Prop:=0≤l∧(rdC c l).f4 = -1∧opEq (rdC c l).f1 (rd_T69 x.f0 x.f1)=true
def tcP (a:Int) (x:mT) (c:List mC):Prop:=(cntC (endC a) c c.length:Int)=x.f1∧(x.f2=false→cntC (opnC a) c c.length=0)∧(x.f2=true→cntC (opnC a) c c.length=1∧nowC x c (lastC c a c.length))
theorem tcP_spec (a:Int) (x:mT) (c:List mC):((∀ (i:Nat) y,c[i]? = some y→y.f0=a→y.f4<0→x.f2=true∧(i:Int)=lastC c a c.length)∧(cntC (endC a) c c.length:Int)=x.f1∧(x.f2=true→nowC x c (lastC c a c.length))) ↔ tcP a x c:=by
 obtain⟨l1,l2,l3⟩:=lastC_in c a c.length
 have conv:∀ (P:Nat→Prop),(∀ (i:Nat) y,c[i]? = some y→y.f0=a→y.f4<0→P i) ↔ (∀ i,i<c.length→opnC a (rdC c (i:Int))=true→P i):=fun P=>by
  constructor
  ·intro h i hi hr
   have er:rdC c (i:Int)=c[i]:=getD_get (List.getElem?_eq_getElem hi)
   rw[er] at hr
   unfold opnC at hr
   rw[decide_eq_true_iff] at hr
   exact h i _ (List.getElem?_eq_getElem hi) hr.1 hr.2
  ·intro h i y hy h1 h2
   have er:rdC c (i:Int)=y:=getD_get hy
   refine h i (List.getElem?_eq_some_iff.mp hy).1 ?_
   rw[er]
   unfold opnC
   rw[decide_eq_true_iff]
   exact⟨h1,h2⟩
 rw[conv]
 unfold tcP
 cases hf:x.f2
 ·constructor
  ·rintro⟨p1,p2,_⟩
   exact⟨p2,fun _=>(cntC_zero _ _ _).mpr (fun i hi hr=>Bool.noConfusion (p1 i hi hr).1),fun b=>Bool.noConfusion b⟩
  ·rintro⟨p1,p2,_⟩
   exact⟨fun i hi hr=>absurd hr ((cntC_zero _ _ _).mp (p2 rfl) i hi),p1,fun b=>Bool.noConfusion b⟩
 ·have key:nowC x c (lastC c a c.length)→(cntC (opnC a) c c.length=1 ↔ ∀ i,i<c.length→opnC a (rdC c (i:Int))=true→(i:Int)=lastC c a c.length):=fun hn=>by
   obtain⟨n1,n2,n3⟩:=hn
   obtain⟨m,hm⟩:∃ m:Nat,lastC c a c.length=(m:Int):=⟨(lastC c a c.length).toNat,by omega⟩
   have h0:=l3 n1
   rw[hm] at n2 h0 l2 ⊢
   have hr:opnC a (rdC c (m:Int))=true:=by
    unfold opnC
    rw[decide_eq_true_iff]
    exact⟨h0,by omega⟩
   rw[cntC_one _ _ hr _ (by omega)]
   exact⟨fun p i hi h=>by have:=p i hi h;omega,fun p i hi h=>by have:=p i hi h;omega⟩
  constructor
  ·rintro⟨p1,p2,p3⟩
   exact⟨p2,fun b=>Bool.noConfusion b,fun _=>⟨(key (p3 rfl)).mpr (fun i hi hr=>(p1 i hi hr).2),p3 rfl⟩⟩
  ·rintro⟨p1,_,p3⟩
   obtain⟨q1,q2⟩:=p3 rfl
   exact⟨fun i hi hr=>⟨rfl,(key q2).mp q1 i hi hr⟩,p1,fun _=>q2⟩
theorem XbG (w:List mW) (d:List mD) (t:List mT) (tm:Int) (c:List mC) (o q:List Int) (s a:Int) (hc:c.length≤1048576):Ev (fun k=>Xaf.f k w d t tm c o q s a) (lastC c a c.length):=by
 have key:∀ n:Nat,n≤c.length→Ev (fun k=>Xaf.l0 k a ((n:Int) - 1) w d t tm c o q s) (lastC c a n):=by
  intro n
  induction n with
  | zero =>
   intro _
   refine Ev.shift ?_
   have c0:¬ ((0:Nat):Int) - 1 ≥ 0:=by omega
   simp only[Xaf.l0,c0,if_false,lastC]
   exact Ev.now _
  | succ n ih =>
   intro hn
   have e0:((n+1:Nat):Int) - 1=(n:Int):=by omega
   have c0:(n:Int) ≥ 0:=by omega
   have c1:(0:Int)≤(n:Int):=by omega
   have c2:(n:Int)<(c.length:Int):=by omega
   have e1:wrap64 ((n:Int) - 1)=(n:Int) - 1:=w64 (by omega) (by omega)
   rw[e0]
   refine Ev.shift ?_
   simp only[Xaf.l0,c0,c1,c2,if_true,lastC,e1]
   by_cases h:(rd_T73 c (n:Int)).f0=a
   ·rw[if_pos h]
    exact Ev.pos h (Ev.now _)
   ·rw[if_neg h]
    exact Ev.neg h (ih (by omega))
 have:=key c.length (Nat.le_refl _)
 have hww:wrap64 ((c.length:Int) - 1)=(c.length:Int) - 1:=w64 (by omega) (by omega)
 simp only[Xaf.f,hww]
 exact this
theorem Xbn (w:List mW) (d:List mD) (t:List mT) (tm:Int) (c:List mC) (o q:List Int) (s:Int) (j:Nat) (x:mT) (hx:t[j]? = some x) (hn:thrN x) (hc:c.length≤1048576) :
  EvB (fun k=>XK.f k w d t tm c o q s (j:Int)) (tcP (j:Int) x c):=by
 have hjl:j<t.length:=(List.getElem?_eq_some_iff.mp hx).1
 have c0:(0:Int)≤(j:Int):=by omega
 have c1:(j:Int)<(t.length:Int):=by omega
 have er:rd_T97 t (j:Int)=x:=getD_get hx
 obtain⟨l1,l2,l3⟩:=lastC_in c (j:Int) c.length
 simp only[XK.f,c0,c1,if_true,er]
 refine EvB.at (XbG w d t tm c o q s (j:Int) hc) ?_
 refine(EvB.each c (R:=fun i y=>y.f0=(j:Int)→y.f4<0→x.f2=true∧(i:Int)=lastC c (j:Int) c.length) (Q:=(cntC (endC (j:Int)) c c.length:Int)=x.f1∧(x.f2=true→nowC x c (lastC c (j:Int) c.length)))
  (g:=fun i k=>XK.l0 k (j:Int) (lastC c (j:Int) c.length) (cntC (endC (j:Int)) c i:Int) (i:Int) w d t tm c o q s x.f0 x.f1 x.f2 x.f3 x.f4) (fun _ => ?_) (fun i y hy hi hp hb => ?_) (fun i y hy hi hp hr r h => ?_)).iff (tcP_spec (j:Int) x c)
 ·refine EvB.shift ?_
  simp only[XK.l0,Int.lt_irrefl,if_false]
  refine EvB.ite (fun h1=>EvB.ite (fun h2=>EvB.ite (fun h3 => ?_) (fun h3=>EvB.no (Ev.now _) (fun p=>h3 (p.2 h2).1))) (fun h2=>EvB.yes (Ev.now _) ⟨h1,fun a=>absurd a h2⟩)) (fun h1=>EvB.no (Ev.now _) (fun p=>h1 p.1))
  refine EvB.pos h3 (EvB.pos (by omega) ?_)
  refine EvB.ite (fun h4 => ?_) (fun h4=>EvB.no (Ev.now _) (fun p=>h4 (p.2 h2).2.1))
  have:=hn.2.2.1 h2
  have:=hn.2.1
  refine EvB.pos (by omega) (EvB.pos (by omega) (EvB.now ?_))
  exact⟨fun a=>⟨h1,fun _=>⟨h3,h4,a⟩⟩,fun p=>(p.2 h2).2.2⟩
 ·have d0:(0:Int)≤(i:Int):=by omega
  have d1:(i:Int)<(c.length:Int):=by omega
  have ec:rd_T73 c (i:Int)=y:=getD_get hy
  have h1:y.f0=(j:Int):=Classical.byContradiction fun a=>hb fun b=>absurd b a
  have h2:y.f4<0:=Classical.byContradiction fun a=>hb fun _ b=>absurd b a
  have h3:¬ y.f4 ≥ 0:=by omega
  refine Ev.shift ?_
  simp only[XK.l0,d0,d1,if_true,ec]
  refine Ev.pos h1 (Ev.neg h3 ?_)
  by_cases h4:x.f2=true
  ·exact Ev.pos h4 (Ev.neg (fun a=>hb fun _ _=>⟨h4,a⟩) (Ev.now _))
  ·exact Ev.neg h4 (Ev.now _)
 ·have d0:(0:Int)≤(i:Int):=by omega
  have d1:(i:Int)<(c.length:Int):=by omega
  have ec:rd_T73 c (i:Int)=y:=getD_get hy
  have hle:=cntC_le (endC (j:Int)) c i
  refine Ev.shift ?_
  simp only[XK.l0,d0,d1,if_true,ec,succ64 hi (by omega)]
  simp only[cntC,ec] at h
  by_cases h1:y.f0=(j:Int)
  ·refine Ev.pos h1 ?_
   by_cases h2:y.f4 ≥ 0
   ·have e1:wrap64 ((cntC (endC (j:Int)) c i:Int)+1)=((cntC (endC (j:Int)) c i+1:Nat):Int):=by rw[w64 (by omega) (by omega)];omega
    have e2:endC (j:Int) y=true:=by unfold endC;rw[decide_eq_true_iff];exact⟨h1,h2⟩
    simp only[e2,if_true] at h
    simp only[e1]
    exact Ev.pos h2 h
   ·have e2:¬ endC (j:Int) y=true:=by unfold endC;rw[decide_eq_true_iff];exact fun a=>h2 a.2
    simp only[e2,if_false,Nat.add_zero] at h
    obtain⟨g1,g2⟩:=hr h1 (by omega)
    exact Ev.neg h2 (Ev.pos g1 (Ev.pos g2 h))
  ·have e2:¬ endC (j:Int) y=true:=by unfold endC;rw[decide_eq_true_iff];exact fun a=>h1 a.1
   simp only[e2,if_false,Nat.add_zero] at h
   exact Ev.neg h1 h
theorem Xbq (w:List mW) (d:List mD) (t:List mT) (tm:Int) (c:List mC) (o q:List Int) (s:Int) (j:Nat) (x:mT) (hx:t[j]? = some x) (hn:thrN x) (hc:c.length≤1048576) :
  EvB (fun k=>XV.f k w d t tm c o q s (j:Int)) (tcP (j:Int) x c):=by
 have hjl:j<t.length:=(List.getElem?_eq_some_iff.mp hx).1
 have c0:(0:Int)≤(j:Int):=by omega
 have c1:(j:Int)<(t.length:Int):=by omega
 have er:rd_T97 t (j:Int)=x:=getD_get hx
 obtain⟨l1,l2,l3⟩:=lastC_in c (j:Int) c.length
 simp only[XV.f,c0,c1,if_true,er]
 refine(EvB.each c (R:=fun _ _=>True) (Q:=tcP (j:Int) x c)
  (g:=fun i k=>XV.l0 k (j:Int) (lastC c (j:Int) i) (cntC (endC (j:Int)) c i:Int) (cntC (opnC (j:Int)) c i:Int) c (c.length:Int) (i:Int) w d t tm c o q s x.f0 x.f1 x.f2 x.f3 x.f4) (fun _ => ?_) (fun i y hy hi hp hb=>absurd trivial hb) (fun i y hy hi hp hr r h => ?_)).iff ⟨fun a=>a.2,fun a=>⟨fun _ _ _=>trivial,a⟩⟩
 ·refine EvB.shift ?_
  simp only[XV.l0,Int.lt_irrefl,if_false]
  refine EvB.ite (fun h1=>EvB.ite (fun h2=>EvB.ite (fun h3=>EvB.ite (fun h5 => ?_) (fun h5=>EvB.no (Ev.now _) (fun p=>h5 (by have:=(p.2.2 h2).1;omega)))) (fun h3=>EvB.no (Ev.now _) (fun p=>h3 (p.2.2 h2).2.1))) (fun h2=>EvB.now ?_)) (fun h1=>EvB.no (Ev.now _) (fun p=>h1 p.1))
  ·refine EvB.pos h3 (EvB.pos (by omega) ?_)
   refine EvB.ite (fun h4 => ?_) (fun h4=>EvB.no (Ev.now _) (fun p=>h4 (p.2.2 h2).2.2.1))
   have:=hn.2.2.1 h2
   have:=hn.2.1
   refine EvB.pos (by omega) (EvB.pos (by omega) (EvB.now ?_))
   exact⟨fun a=>⟨h1,fun b=>absurd h2 (by rw[b];decide),fun _=>⟨by omega,h3,h4,a⟩⟩,fun p=>(p.2.2 h2).2.2.2⟩
  ·rw[beq_iff_eq]
   have h2':x.f2=false:=by simpa using h2
   exact⟨fun a=>⟨h1,fun _=>by omega,fun b=>absurd b h2⟩,fun p=>by have:=p.2.1 h2';omega⟩
 ·have d0:(0:Int)≤(i:Int):=by omega
  have d1:(i:Int)<(c.length:Int):=by omega
  have ec:rd_T73 c (i:Int)=y:=getD_get hy
  have hle:=cntC_le (endC (j:Int)) c i
  have hle2:=cntC_le (opnC (j:Int)) c i
  refine Ev.shift ?_
  simp only[XV.l0,d0,d1,if_true,ec,succ64 hi (by omega)]
  simp only[cntC,lastC,rdC,ec] at h
  by_cases h1:y.f0=(j:Int)
  ·simp only[h1,if_true] at h
   refine Ev.pos h1 ?_
   by_cases h2:y.f4 ≥ 0
   ·have e1:wrap64 ((cntC (endC (j:Int)) c i:Int)+1)=((cntC (endC (j:Int)) c i+1:Nat):Int):=by rw[w64 (by omega) (by omega)];omega
    have e2:endC (j:Int) y=true:=by unfold endC;rw[decide_eq_true_iff];exact⟨h1,h2⟩
    have e3:¬ opnC (j:Int) y=true:=by unfold opnC;rw[decide_eq_true_iff];exact fun a=>absurd a.2 (by omega)
    simp only[e2,e3,if_true,if_false,Nat.add_zero] at h
    simp only[e1]
    exact Ev.pos h2 h
   ·have e1:wrap64 ((cntC (opnC (j:Int)) c i:Int)+1)=((cntC (opnC (j:Int)) c i+1:Nat):Int):=by rw[w64 (by omega) (by omega)];omega
    have e2:¬ endC (j:Int) y=true:=by unfold endC;rw[decide_eq_true_iff];exact fun a=>h2 a.2
    have e3:opnC (j:Int) y=true:=by unfold opnC;rw[decide_eq_true_iff];exact⟨h1,by omega⟩
    simp only[e2,e3,if_true,if_false,Nat.add_zero] at h
    simp only[e1]
    exact Ev.neg h2 h
  ·have e2:¬ endC (j:Int) y=true:=by unfold endC;rw[decide_eq_true_iff];exact fun a=>h1 a.1
   have e3:¬ opnC (j:Int) y=true:=by unfold opnC;rw[decide_eq_true_iff];exact fun a=>h1 a.1
   simp only[h1,e2,e3,if_false,Nat.add_zero] at h
   exact Ev.neg h1 h
end Go.Proofs.YtmljebgideecjaaGreat.P2
