/- A part of the proof of the law FnStarts: texts of this seat, merged (words, printed functions of the program, plain lemmas). Conditions: none of its own. -/
import Derived.Test.YthejoblnfpaojaaGreatPkFnStarts38
set_option linter.unusedSimpArgs false
set_option linter.unusedVariables false
set_option maxHeartbeats 8000000
set_option maxRecDepth 100000
namespace Go.Proofs.YthejoblnfpaojaaGreat.P
open Go.RowKit Go.Proofs.YthejoblnfpaojaaGreatW.PrintWords Go.Proofs.YthejoblnfpaojaaGreatW.PrintLast Go.Proofs.YthejoblnfpaojaaGreatZ
abbrev mO:=S78
abbrev mP:=S152
abbrev mH:=S154
abbrev mT:=S108
def opP (x:mO):Prop:=opOk x.f0 x.f1 x.f2=true
def pairP (x:mP):Prop:=(0≤x.f0∧x.f0≤19)∧(0≤x.f1∧x.f1≤1000)
def helpP (n:Int) (x:mH):Prop:=(0≤x.f0∧x.f0<n)∧(1≤x.f1∧x.f1≤1000000)∧(0≤x.f2∧x.f2≤20)∧(0≤x.f3∧x.f3≤20)
def thrN (x:mT):Prop:=x.f0.length≤8∧(0≤x.f1∧x.f1≤x.f0.length)∧(x.f2=true→x.f1<x.f0.length)∧(x.f2=false→x.f3.length=0∧x.f4.length=0)∧x.f3.length≤12∧x.f4.length≤2
def thrP (n:Int) (x:mT):Prop:=thrN x∧(∀ y ∈ x.f0,opP y)∧(∀ y ∈ x.f3,pairP y)∧(∀ y ∈ x.f4,helpP n y)
def smT (x:mT):Prop:=x.f0.length≤1048576∧x.f3.length≤1048576∧x.f4.length≤1048576
theorem specThr_l2 (n:Int) (x:mT) (h:smT x):EvB (fun k=>Xd.l2 k n 0 x.f0 x.f1 x.f2 x.f3 x.f4) (∀ y ∈ x.f4,helpP n y):=by
 refine(EvB.each x.f4 (R:=fun _ y=>helpP n y) (Q:=True) (g:=fun i k=>Xd.l2 k n (i:Int) x.f0 x.f1 x.f2 x.f3 x.f4) (fun _ => ?_) (fun i y hx hi hp hn => ?_) (fun i y hx hi hp hr r g => ?_)).iff (by rw[each_mem,and_true])
 ·refine EvB.yes (Ev.shift ?_) trivial
  simp only[Xd.l2,Int.lt_irrefl,if_false]
  exact Ev.now _
 ·have c0:(0:Int)≤(i:Int):=by omega
  have c1:(i:Int)<(x.f4.length:Int):=by omega
  have er:rd_T154 x.f4 (i:Int)=y:=getD_get hx
  refine Ev.shift ?_
  simp only[Xd.l2,c0,c1,if_true,er,specIn_eq,Option.bind_some,decide_eq_true_eq]
  by_cases h1:y.f0<0
  ·exact Ev.pos h1 (Ev.now _)
  ·refine Ev.neg h1 ?_
   by_cases h2:y.f0 ≥ n
   ·exact Ev.pos h2 (Ev.now _)
   ·refine Ev.neg h2 ?_
    by_cases h3:1≤y.f1∧y.f1≤1000000
    ·refine Ev.pos h3 ?_
     by_cases h4:0≤y.f2∧y.f2≤20
     ·refine Ev.pos h4 (Ev.neg (fun h5=>hn ⟨by omega,h3,h4,h5⟩) (Ev.now _))
     ·exact Ev.neg h4 (Ev.now _)
    ·exact Ev.neg h3 (Ev.now _)
 ·have c0:(0:Int)≤(i:Int):=by omega
  have c1:(i:Int)<(x.f4.length:Int):=by omega
  have er:rd_T154 x.f4 (i:Int)=y:=getD_get hx
  have:=h.2.2
  obtain⟨h1,h3,h4,h5⟩:=hr
  refine Ev.shift ?_
  simp only[Xd.l2,c0,c1,if_true,er,specIn_eq,Option.bind_some,decide_eq_true_eq,succ64 hi (by omega)]
  exact Ev.neg (by omega) (Ev.neg (by omega) (Ev.pos h3 (Ev.pos h4 (Ev.pos h5 g))))
theorem specThr_l1 (n:Int) (x:mT) (h:smT x):EvB (fun k=>Xd.l1 k n 0 x.f0 x.f1 x.f2 x.f3 x.f4) ((∀ y ∈ x.f3,pairP y)∧∀ y ∈ x.f4,helpP n y):=by
 refine(EvB.each x.f3 (R:=fun _ y=>pairP y) (Q:=∀ y ∈ x.f4,helpP n y) (g:=fun i k=>Xd.l1 k n (i:Int) x.f0 x.f1 x.f2 x.f3 x.f4) (fun _ => ?_) (fun i y hx hi hp hn => ?_) (fun i y hx hi hp hr r g => ?_)).iff (by rw[each_mem])
 ·refine EvB.shift ?_
  simp only[Xd.l1,Int.lt_irrefl,if_false]
  exact specThr_l2 n x h
 ·have c0:(0:Int)≤(i:Int):=by omega
  have c1:(i:Int)<(x.f3.length:Int):=by omega
  have er:rd_T152 x.f3 (i:Int)=y:=getD_get hx
  refine Ev.shift ?_
  simp only[Xd.l1,c0,c1,if_true,er,specIn_eq,Option.bind_some,decide_eq_true_eq]
  by_cases h3:0≤y.f0∧y.f0≤19
  ·exact Ev.pos h3 (Ev.neg (fun h5=>hn ⟨h3,h5⟩) (Ev.now _))
  ·exact Ev.neg h3 (Ev.now _)
 ·have c0:(0:Int)≤(i:Int):=by omega
  have c1:(i:Int)<(x.f3.length:Int):=by omega
  have er:rd_T152 x.f3 (i:Int)=y:=getD_get hx
  have:=h.2.1
  refine Ev.shift ?_
  simp only[Xd.l1,c0,c1,if_true,er,specIn_eq,Option.bind_some,decide_eq_true_eq,succ64 hi (by omega)]
  exact Ev.pos hr.1 (Ev.pos hr.2 g)
theorem specThr_l0 (n:Int) (x:mT) (h:smT x):EvB (fun k=>Xd.l0 k n 0 x.f0 x.f1 x.f2 x.f3 x.f4) ((∀ y ∈ x.f0,opP y)∧(∀ y ∈ x.f3,pairP y)∧∀ y ∈ x.f4,helpP n y):=by
 refine(EvB.each x.f0 (R:=fun _ y=>opP y) (Q:=(∀ y ∈ x.f3,pairP y)∧∀ y ∈ x.f4,helpP n y) (g:=fun i k=>Xd.l0 k n (i:Int) x.f0 x.f1 x.f2 x.f3 x.f4) (fun _ => ?_) (fun i y hx hi hp hn => ?_) (fun i y hx hi hp hr r g => ?_)).iff (by rw[each_mem])
 ·refine EvB.shift ?_
  simp only[Xd.l0,Int.lt_irrefl,if_false]
  exact specThr_l1 n x h
 ·have c0:(0:Int)≤(i:Int):=by omega
  have c1:(i:Int)<(x.f0.length:Int):=by omega
  have er:rd_T78 x.f0 (i:Int)=y:=getD_get hx
  refine Ev.shift ?_
  simp only[Xd.l0,c0,c1,if_true,er]
  exact Ev.bind (XaU _ _ _) (Ev.neg hn (Ev.now _))
 ·have c0:(0:Int)≤(i:Int):=by omega
  have c1:(i:Int)<(x.f0.length:Int):=by omega
  have er:rd_T78 x.f0 (i:Int)=y:=getD_get hx
  have:=h.1
  refine Ev.shift ?_
  simp only[Xd.l0,c0,c1,if_true,er,succ64 hi (by omega)]
  exact Ev.bind (XaU _ _ _) (Ev.pos hr g)
theorem Xa0 (n:Int) (x:mT) (h:smT x):EvB (fun k=>Xd.f k x.f0 x.f1 x.f2 x.f3 x.f4 n) (thrP n x):=by
 have hb:=h
 obtain⟨s1,s2,s3⟩:=h
 have bad:Ev (fun k=>Xd.j0 k n true x.f0 x.f1 x.f2 x.f3 x.f4) false:=Ev.shift (by simp only[Xd.j0,if_true];exact Ev.now _)
 have good:thrN x→EvB (fun k=>Xd.j0 k n false x.f0 x.f1 x.f2 x.f3 x.f4) (thrP n x):=fun hn=>by
  refine EvB.shift ?_
  simp only[Xd.j0,Bool.false_eq_true,if_false]
  exact(specThr_l0 n x hb).iff ⟨fun p=>⟨hn,p⟩,fun p=>p.2⟩
 have hww:wrap64 ((x.f3.length:Int)+(x.f4.length:Int))=(x.f3.length:Int)+(x.f4.length:Int):=w64 (by omega) (by omega)
 simp only[Xd.f,specIn_eq,Option.bind_some,decide_eq_true_eq,hww]
 refine EvB.ite (fun h1=>EvB.no bad (fun p=>absurd p.1.1 (by omega))) (fun h1=>EvB.ite (fun h2 => ?_) (fun h2=>EvB.no bad (fun p=>h2 p.1.2.1)))
 refine EvB.ite (fun h3=>EvB.ite (fun h4=>EvB.no bad (fun p=>absurd (p.1.2.2.1 h3) (by omega))) (fun h4=>EvB.ite (fun h5=>EvB.no bad (fun p=>absurd p.1.2.2.2.2.1 (by omega))) (fun h5 => ?_)))
  (fun h3=>EvB.ite (fun h4=>EvB.no bad (fun p=>absurd (p.1.2.2.2.1 (by simpa using h3)) (by omega))) (fun h4=>EvB.ite (fun h5=>EvB.no bad (fun p=>absurd p.1.2.2.2.2.1 (by omega))) (fun h5 => ?_)))
 ·by_cases h6:(x.f4.length:Int) > 2
  ·simp only[h6,decide_true]
   exact EvB.no bad (fun p=>absurd p.1.2.2.2.2.2 (by omega))
  ·simp only[h6,decide_false]
   exact good ⟨by omega,h2,fun _=>by omega,fun a=>(by rw[h3] at a;cases a),by omega,by omega⟩
 ·by_cases h6:(x.f4.length:Int) > 2
  ·simp only[h6,decide_true]
   exact EvB.no bad (fun p=>absurd p.1.2.2.2.2.2 (by omega))
  ·simp only[h6,decide_false]
   exact good ⟨by omega,h2,fun a=>absurd a h3,fun _=>by omega,by omega,by omega⟩
theorem implThr_ops (l:List mO) (hl:l.length≤1048576):EvB (fun k=>Xan.f k l) (∃ y ∈ l,¬ opP y):=by
 obtain⟨r,q1,q2,q3⟩:=first_ev l (fun x=>¬ opP x) (g:=fun i k=>XR.l0 k l (l.length:Int) (i:Int)) (by
  refine Ev.shift ?_
  simp only[XR.l0,Int.lt_irrefl,if_false]
  exact Ev.now _) (fun i x hx hi hn=>by
  have c0:(0:Int)≤(i:Int):=by omega
  have c1:(i:Int)<(l.length:Int):=by omega
  have er:rd_T78 l (i:Int)=x:=getD_get hx
  have e:opOk x.f0 x.f1 x.f2=false:=by unfold opP at hn;simpa using hn
  refine Ev.shift ?_
  simp only[XR.l0,c0,c1,if_true,er,Xam.f]
  exact Ev.bind (Ev.bind ((XaT _ _ _).to e) (Ev.now _)) (Ev.pos rfl (Ev.now _))) (fun i x hx hi hn r h=>by
  have c0:(0:Int)≤(i:Int):=by omega
  have c1:(i:Int)<(l.length:Int):=by omega
  have er:rd_T78 l (i:Int)=x:=getD_get hx
  refine Ev.shift ?_
  simp only[XR.l0,c0,c1,if_true,er,Xam.f,succ64 hi (by omega)]
  exact Ev.bind (Ev.bind ((XaT _ _ _).to (Classical.not_not.mp hn)) (Ev.now _)) (Ev.neg (by decide) h))
 refine⟨decide (r ≥ 0),?_,by rw[decide_eq_true_iff];exact q3⟩
 simp only[Xan.f,XR.f]
 exact Ev.bind q1 (Ev.now _)
theorem pair_eq (x:mP):EvB (fun _=>Xal.f x.f0 x.f1) (¬ pairP x):=by
 simp only[Xal.f,place_eq,wnum_eq,Option.bind_some,decide_eq_true_eq]
 refine EvB.ite (fun h1=>EvB.now ?_) (fun h1=>EvB.yes (Ev.now _) (fun p=>h1 p.1))
 by_cases h2:0≤x.f1∧x.f1≤1000
 ·simp only[h2,and_self,decide_true,Bool.not_true];exact iff_of_false (by decide) (fun a=>a ⟨h1,h2⟩)
 ·simp only[h2,decide_false,Bool.not_false];exact iff_of_true trivial (fun a=>h2 a.2)
theorem help_eq (n:Int) (x:mH) (hn:0≤n∧n≤1048576):EvB (fun _=>Xak.f x.f0 x.f1 x.f2 x.f3 n) (¬ helpP n x):=by
 have hww:wrap64 (n - 1)=n - 1:=w64 (by omega) (by omega)
 simp only[Xak.f,implFrom_eq,hww,Option.bind_some,decide_eq_true_eq]
 refine EvB.ite (fun h1=>EvB.ite (fun h2=>EvB.ite (fun h3=>EvB.now ?_) (fun h3=>EvB.yes (Ev.now _) (fun p=>h3 p.2.2.1))) (fun h2=>EvB.yes (Ev.now _) (fun p=>h2 p.2.1))) (fun h1=>EvB.yes (Ev.now _) (fun p=>h1 (by have:=p.1;omega)))
 by_cases h4:0≤x.f3∧x.f3≤20
 ·simp only[h4,and_self,decide_true,Bool.not_true];exact iff_of_false (by decide) (fun a=>a ⟨by omega,h2,h3,h4⟩)
 ·simp only[h4,decide_false,Bool.not_false];exact iff_of_true trivial (fun a=>h4 a.2.2.2)
theorem implThr_pairs (l:List mP) (hl:l.length≤1048576):EvB (fun k=>Xae.f k l) (∃ y ∈ l,¬ pairP y):=by
 obtain⟨r,q1,q2,q3⟩:=first_ev l (fun x=>¬ pairP x) (g:=fun i k=>XI.l0 k l (l.length:Int) (i:Int)) (by
  refine Ev.shift ?_
  simp only[XI.l0,Int.lt_irrefl,if_false]
  exact Ev.now _) (fun i x hx hi hn=>by
  have c0:(0:Int)≤(i:Int):=by omega
  have c1:(i:Int)<(l.length:Int):=by omega
  have er:rd_T152 l (i:Int)=x:=getD_get hx
  refine Ev.shift ?_
  simp only[XI.l0,c0,c1,if_true,er]
  exact Ev.bind ((pair_eq x).val hn) (Ev.pos rfl (Ev.now _))) (fun i x hx hi hn r h=>by
  have c0:(0:Int)≤(i:Int):=by omega
  have c1:(i:Int)<(l.length:Int):=by omega
  have er:rd_T152 l (i:Int)=x:=getD_get hx
  refine Ev.shift ?_
  simp only[XI.l0,c0,c1,if_true,er,succ64 hi (by omega)]
  exact Ev.bind ((pair_eq x).nval hn) (Ev.neg (by decide) h))
 refine⟨decide (r ≥ 0),?_,by rw[decide_eq_true_iff];exact q3⟩
 simp only[Xae.f,XI.f]
 exact Ev.bind q1 (Ev.now _)
theorem implThr_helps (n:Int) (hn:0≤n∧n≤1048576) (l:List mH) (hl:l.length≤1048576):EvB (fun k=>Xah.f k l n) (∃ y ∈ l,¬ helpP n y):=by
 obtain⟨r,q1,q2,q3⟩:=first_ev l (fun x=>¬ helpP n x) (g:=fun i k=>XH.l0 k l (l.length:Int) (i:Int) n) (by
  refine Ev.shift ?_
  simp only[XH.l0,Int.lt_irrefl,if_false]
  exact Ev.now _) (fun i x hx hi hb=>by
  have c0:(0:Int)≤(i:Int):=by omega
  have c1:(i:Int)<(l.length:Int):=by omega
  have er:rd_T154 l (i:Int)=x:=getD_get hx
  refine Ev.shift ?_
  simp only[XH.l0,c0,c1,if_true,er]
  exact Ev.bind ((help_eq n x hn).val hb) (Ev.pos rfl (Ev.now _))) (fun i x hx hi hb r h=>by
  have c0:(0:Int)≤(i:Int):=by omega
  have c1:(i:Int)<(l.length:Int):=by omega
  have er:rd_T154 l (i:Int)=x:=getD_get hx
  refine Ev.shift ?_
  simp only[XH.l0,c0,c1,if_true,er,succ64 hi (by omega)]
  exact Ev.bind ((help_eq n x hn).nval hb) (Ev.neg (by decide) h))
 refine⟨decide (r ≥ 0),?_,by rw[decide_eq_true_iff];exact q3⟩
 simp only[Xah.f,XH.f]
 exact Ev.bind q1 (Ev.now _)
theorem all_not {τ:Type} {l:List τ} {R:τ→Prop} (h:¬ ∃ x ∈ l,¬ R x):∀ x ∈ l,R x:=fun x hx=>Classical.byContradiction fun hn=>h ⟨x,hx,hn⟩
theorem Xa1 (n:Int) (hn:0≤n∧n≤1048576) (x:mT) (h:smT x):EvB (fun k=>Xq.f k x.f0 x.f1 x.f2 x.f3 x.f4 n) (thrP n x):=by
 obtain⟨s1,s2,s3⟩:=h
 have bad:Ev (fun k=>Xq.j0 k true x.f0 x.f1 x.f2 x.f3 x.f4 n) false:=Ev.shift (by simp only[Xq.j0,if_true];exact Ev.now _)
 have hww:wrap64 ((x.f3.length:Int)+(x.f4.length:Int))=(x.f3.length:Int)+(x.f4.length:Int):=w64 (by omega) (by omega)
 have good:thrN x→(∀ y ∈ x.f0,opP y)→EvB (fun k=>Xq.j1 k false x.f0 x.f1 x.f2 x.f3 x.f4 n) (thrP n x):=fun hn1 hop=>by
  refine EvB.shift ?_
  simp only[Xq.j1,Bool.false_eq_true,if_false]
  refine EvB.bind (implThr_pairs x.f3 s2) (fun hp=>EvB.pos rfl (EvB.no (Ev.now _) (fun p=>hp.elim fun y hy=>hy.2 (p.2.2.1 y hy.1)))) (fun hp=>EvB.neg (by decide) ?_)
  refine EvB.bind (implThr_helps n hn x.f4 s3) (fun hq=>EvB.no (Ev.now _) (fun p=>hq.elim fun y hy=>hy.2 (p.2.2.2 y hy.1))) (fun hq=>EvB.yes (Ev.now _) ⟨hn1,hop,all_not hp,all_not hq⟩)
 have mid:x.f0.length≤8→(0≤x.f1∧x.f1≤x.f0.length)→(x.f2=true→x.f1<x.f0.length)→x.f3.length≤12→x.f4.length≤2→(∀ y ∈ x.f0,opP y)→EvB (fun k=>Xq.j0 k false x.f0 x.f1 x.f2 x.f3 x.f4 n) (thrP n x):=fun a1 a2 a3 a4 a5 hop=>by
  refine EvB.shift ?_
  simp only[Xq.j0,Bool.false_eq_true,if_false,hww]
  refine EvB.ite (fun b1=>good ⟨a1,a2,a3,fun a=>(by rw[b1] at a;cases a),a4,a5⟩ hop) (fun b1 => ?_)
  by_cases b2:(x.f3.length:Int)+(x.f4.length:Int) > 0
  ·simp only[b2,decide_true]
   refine EvB.no (Ev.shift (by simp only[Xq.j1,if_true];exact Ev.now _)) (fun p=>absurd (p.1.2.2.2.1 (by simpa using b1)) (by omega))
  ·simp only[b2,decide_false]
   exact good ⟨a1,a2,a3,fun _=>by omega,a4,a5⟩ hop
 simp only[Xq.f,implFrom_eq,Option.bind_some,decide_eq_true_eq]
 refine EvB.ite (fun h1=>EvB.no bad (fun p=>absurd p.1.1 (by omega))) (fun h1 => ?_)
 refine EvB.bind (implThr_ops x.f0 s1) (fun ho=>EvB.pos rfl (EvB.no bad (fun p=>ho.elim fun y hy=>hy.2 (p.2.1 y hy.1)))) (fun ho=>EvB.neg (by decide) ?_)
 have ho':=all_not ho
 refine EvB.ite (fun h2 => ?_) (fun h2=>EvB.no bad (fun p=>h2 p.1.2.1))
 refine EvB.ite (fun h3=>EvB.ite (fun h4=>EvB.no bad (fun p=>absurd (p.1.2.2.1 h3) (by omega))) (fun h4=>EvB.ite (fun h5=>EvB.no bad (fun p=>absurd p.1.2.2.2.2.1 (by omega))) (fun h5 => ?_)))
  (fun h3=>EvB.ite (fun h5=>EvB.no bad (fun p=>absurd p.1.2.2.2.2.1 (by omega))) (fun h5 => ?_))
 ·by_cases h6:(x.f4.length:Int) > 2
  ·simp only[h6,decide_true]
   exact EvB.no bad (fun p=>absurd p.1.2.2.2.2.2 (by omega))
  ·simp only[h6,decide_false]
   exact mid (by omega) h2 (fun _=>by omega) (by omega) (by omega) ho'
 ·by_cases h6:(x.f4.length:Int) > 2
  ·simp only[h6,decide_true]
   exact EvB.no bad (fun p=>absurd p.1.2.2.2.2.2 (by omega))
  ·simp only[h6,decide_false]
   exact mid (by omega) h2 (fun a=>absurd a h3) (by omega) (by omega) ho'
end Go.Proofs.YthejoblnfpaojaaGreat.P
