/- A part of the proof of the law FnStarts: texts of this seat, merged (words, printed functions of the program, plain lemmas). Conditions: none of its own. -/
import Derived.Test.YthejoblnfpaojaaGreatPkFnStarts28
import Derived.Test.YthejoblnfpaojaaGreatPkFnStarts33
set_option linter.unusedSimpArgs false
set_option linter.unusedVariables false
set_option maxHeartbeats 8000000
set_option maxRecDepth 100000
namespace Go.Proofs.YthejoblnfpaojaaGreat.P
open Go.RowKit Go.Proofs.YthejoblnfpaojaaGreatW.PrintWords Go.Proofs.YthejoblnfpaojaaGreatW.PrintLast Go.Proofs.YthejoblnfpaojaaGreatZ
theorem place_eq (n:Int):X6.f n=some (decide (0≤n∧n≤19)):=by simp only[X6.f,implFrom_eq,Option.bind_some]
theorem wnum_eq (n:Int):XC.f n=some (decide (0≤n∧n≤1000)):=by simp only[XC.f,implFrom_eq,Option.bind_some]
def wordP (n:Int) (w:mW):Prop:=(w.f1=0∧w.f2=0∧0≤w.f0∧w.f0≤1000) ∨ (w.f1 ≠ 0∧w.f0=0∧(1≤w.f1∧w.f1≤n)∧1≤w.f2∧w.f2≤1000000)
theorem Xa7 (n:Int) (w:mW):EvB (fun _=>Xad.f w.f0 w.f1 w.f2 n) (wordP n w):=by
 simp only[Xad.f,specIn_eq,Option.bind_some,decide_eq_true_eq]
 refine EvB.ite (fun h1=>EvB.ite (fun h2=>EvB.now ?_) (fun h2=>EvB.no (Ev.now _) ?_)) (fun h1=>EvB.ite (fun h2=>EvB.ite (fun h3=>EvB.now ?_) (fun h3=>EvB.no (Ev.now _) ?_)) (fun h2=>EvB.no (Ev.now _) ?_))
 ·rw[decide_eq_true_iff];unfold wordP;omega
 ·unfold wordP;omega
 ·rw[decide_eq_true_iff];unfold wordP;omega
 ·unfold wordP;omega
 ·unfold wordP;omega
theorem Xa8 (n:Int) (w:mW):EvB (fun _=>Xay.f w.f0 w.f1 w.f2 n) (wordP n w):=by
 simp only[Xay.f,wnum_eq,implFrom_eq,Option.bind_some,decide_eq_true_eq]
 refine EvB.ite (fun h1=>EvB.ite (fun h2=>EvB.now ?_) (fun h2=>EvB.no (Ev.now _) ?_)) (fun h1=>EvB.ite (fun h2=>EvB.ite (fun h3=>EvB.now ?_) (fun h3=>EvB.no (Ev.now _) ?_)) (fun h2=>EvB.no (Ev.now _) ?_))
 ·rw[beq_iff_eq];unfold wordP;omega
 ·unfold wordP;omega
 ·rw[decide_eq_true_iff];unfold wordP;omega
 ·unfold wordP;omega
 ·unfold wordP;omega
def entP (l:List mE) (i:Nat) (e:mE):Prop:=(0≤e.f0∧e.f0≤19)∧(0≤e.f1∧e.f1≤1000)∧(0≤e.f2∧e.f2≤1000)∧(0<i→(rd_T63 l ((i:Int) - 1)).f0<e.f0)
def descP (a b:Int) (l:List mE) (c:Int) (q:List Int):Prop :=
 (a=0∧b=0∧l.length=0∧c=0∧q.length=0) ∨ (a ≠ 0∧(1≤a∧a≤1000000)∧(1≤b∧b≤3)∧l.length≤20∧∀ i e,l[i]? = some e→entP l i e)
theorem desc_zero {a b c:Int} {l:List mE} {q:List Int} (h:a=0):descP a b l c q ↔ (b=0∧l.length=0∧c=0∧q.length=0) :=
 ⟨fun p=>p.elim (fun x=>x.2) (fun x=>absurd h x.1),fun p => .inl ⟨h,p⟩⟩
theorem desc_some {a b c:Int} {l:List mE} {q:List Int} (h:¬ a=0):descP a b l c q ↔ ((1≤a∧a≤1000000)∧(1≤b∧b≤3)∧l.length≤20∧∀ i e,l[i]? = some e→entP l i e) :=
 ⟨fun p=>p.elim (fun x=>absurd x.1 h) (fun x=>x.2),fun p => .inr ⟨h,p⟩⟩
theorem Xbh (a b:Int) (l:List mE) (c:Int) (q:List Int) (hl:l.length≤1048576):EvB (fun k=>Xg.l0 k 0 a b l c q) (∀ i e,l[i]? = some e→entP l i e):=by
 refine(EvB.each l (R:=entP l) (Q:=True) (g:=fun i k=>Xg.l0 k (i:Int) a b l c q) (fun _ => ?_) (fun i x hx hi hp hn => ?_) (fun i x hx hi hp hr r h => ?_)).iff (by simp)
 ·refine EvB.yes (Ev.shift ?_) trivial
  simp only[Xg.l0,Int.lt_irrefl,if_false]
  exact Ev.now _
 ·have c0:(0:Int)≤(i:Int):=by omega
  have c1:(i:Int)<(l.length:Int):=by omega
  have er:rd_T63 l (i:Int)=x:=getD_get hx
  refine Ev.shift ?_
  simp only[Xg.l0,c0,c1,if_true,er,specIn_eq,Option.bind_some,decide_eq_true_eq]
  by_cases h1:0≤x.f0∧x.f0≤19
  ·by_cases h2:0≤x.f1∧x.f1≤1000
   ·by_cases h3:0≤x.f2∧x.f2≤1000
    ·by_cases h4:(i:Int) > 0
     ·have e1:wrap64 ((i:Int) - 1)=(i:Int) - 1:=w64 (by omega) (by omega)
      have e2:(0:Int)≤(i:Int) - 1:=by omega
      have e3:(i:Int) - 1<(l.length:Int):=by omega
      have h5:(rd_T63 l ((i:Int) - 1)).f0 ≥ x.f0:=by
       refine Int.not_lt.mp fun a=>hn ⟨h1,h2,h3,fun _=>a⟩
      simp only[h1,h2,h3,h4,e1,e2,e3,h5,and_self,if_true]
      exact Ev.now _
     ·exact absurd ⟨h1,h2,h3,fun a=>absurd a (by omega)⟩ hn
    ·simp only[h1,h2,h3,and_self,if_true,if_false];exact Ev.now _
   ·simp only[h1,h2,and_self,if_true,if_false];exact Ev.now _
  ·simp only[h1,if_false];exact Ev.now _
 ·have c0:(0:Int)≤(i:Int):=by omega
  have c1:(i:Int)<(l.length:Int):=by omega
  have er:rd_T63 l (i:Int)=x:=getD_get hx
  obtain⟨h1,h2,h3,h4⟩:=hr
  refine Ev.shift ?_
  simp only[Xg.l0,c0,c1,if_true,er,specIn_eq,Option.bind_some,decide_eq_true_eq,h1,h2,h3,and_self,succ64 hi (by omega)]
  by_cases h5:(i:Int) > 0
  ·have e1:wrap64 ((i:Int) - 1)=(i:Int) - 1:=w64 (by omega) (by omega)
   have e2:(0:Int)≤(i:Int) - 1:=by omega
   have e3:(i:Int) - 1<(l.length:Int):=by omega
   have h6:¬ (rd_T63 l ((i:Int) - 1)).f0 ≥ x.f0:=Int.not_le.mpr (h4 (by omega))
   simp only[h5,e1,e2,e3,h6,if_true,if_false]
   exact h
  ·simp only[h5,if_false]
   exact h
theorem Xa9 (a b:Int) (l:List mE) (c:Int) (q:List Int) (hl:l.length≤1048576):EvB (fun k=>Xg.f k a b l c q) (descP a b l c q):=by
 simp only[Xg.f,specIn_eq,Option.bind_some,decide_eq_true_eq]
 refine EvB.ite (fun h0 => ?_) (fun h0 => ?_)
 ·refine EvB.iff ?_ (desc_zero h0).symm
  refine EvB.ite (fun h1=>EvB.ite (fun h2=>EvB.ite (fun h3=>EvB.now ?_) (fun h3=>EvB.no (Ev.now _) ?_)) (fun h2=>EvB.no (Ev.now _) ?_)) (fun h1=>EvB.no (Ev.now _) ?_)
  ·rw[beq_iff_eq];omega
  ·omega
  ·omega
  ·omega
 ·refine EvB.iff ?_ (desc_some h0).symm
  have bad:∀ z,¬ ((1≤a∧a≤1000000)∧(1≤b∧b≤3)∧l.length≤20) ∨ z→z→True:=fun _ _ _=>trivial
  refine EvB.ite (fun h1=>EvB.ite (fun h2 => ?_) (fun h2=>EvB.no (Ev.shift ?_) (fun p=>h2 p.2.1))) (fun h1=>EvB.no (Ev.shift ?_) (fun p=>h1 p.1))
  ·by_cases h3:(l.length:Int) > 20
   ·refine EvB.no (Ev.shift ?_) (fun p=>absurd p.2.2.1 (by omega))
    simp only[Xg.j0,h3,decide_true,if_true]
    exact Ev.now _
   ·refine EvB.shift ?_
    simp only[Xg.j0,h3,decide_false,Bool.false_eq_true,if_false]
    exact(Xbh a b l c q hl).iff ⟨fun p=>⟨h1,h2,by omega,p⟩,fun p=>p.2.2.2⟩
  ·simp only[Xg.j0,if_true];exact Ev.now _
  ·simp only[Xg.j0,if_true];exact Ev.now _
theorem Xba (a b:Int) (l:List mE) (c:Int) (q:List Int) (hl:l.length≤1048576):EvB (fun k=>Xt.f k a b l c q) (descP a b l c q):=by
 simp only[Xt.f]
 refine EvB.ite (fun h0 => ?_) (fun h0 => ?_)
 ·refine EvB.iff ?_ (desc_zero h0).symm
  refine EvB.ite (fun h1=>EvB.ite (fun h2=>EvB.ite (fun h3=>EvB.now ?_) (fun h3=>EvB.no (Ev.now _) ?_)) (fun h2=>EvB.no (Ev.now _) ?_)) (fun h1=>EvB.no (Ev.now _) ?_)
  ·rw[beq_iff_eq];omega
  ·omega
  ·omega
  ·omega
 ·refine EvB.iff ?_ (desc_some h0).symm
  refine(EvB.each l (R:=entP l) (Q:=(1≤a∧a≤1000000)∧(1≤b∧b≤3)∧l.length≤20) (g:=fun i k=>Xt.l0 k l (l.length:Int) (i:Int) a b l c q) (fun _ => ?_) (fun i x hx hi hp hn => ?_) (fun i x hx hi hp hr r h => ?_)).iff ⟨fun p=>⟨p.2.1,p.2.2.1,p.2.2.2,p.1⟩,fun p=>⟨p.2.2.2,p.1,p.2.1,p.2.2.1⟩⟩
  ·refine EvB.shift ?_
   simp only[Xt.l0,Int.lt_irrefl,if_false,implFrom_eq,Option.bind_some,decide_eq_true_eq]
   refine EvB.ite (fun h1=>EvB.ite (fun h2=>EvB.now ?_) (fun h2=>EvB.no (Ev.now _) (fun p=>h2 p.2.1))) (fun h1=>EvB.no (Ev.now _) (fun p=>h1 p.1))
   rw[decide_eq_true_iff]
   exact⟨fun p=>⟨h1,h2,by omega⟩,fun p=>by omega⟩
  ·have c0:(0:Int)≤(i:Int):=by omega
   have c1:(i:Int)<(l.length:Int):=by omega
   have er:rd_T63 l (i:Int)=x:=getD_get hx
   refine Ev.shift ?_
   simp only[Xt.l0,c0,c1,if_true,er,place_eq,wnum_eq,Option.bind_some,decide_eq_true_eq]
   by_cases h1:0≤x.f0∧x.f0≤19
   ·by_cases h2:0≤x.f1∧x.f1≤1000
    ·by_cases h3:0≤x.f2∧x.f2≤1000
     ·by_cases h4:(i:Int) > 0
      ·have e1:wrap64 ((i:Int) - 1)=(i:Int) - 1:=w64 (by omega) (by omega)
       have e2:(0:Int)≤(i:Int) - 1:=by omega
       have e3:(i:Int) - 1<(l.length:Int):=by omega
       have h5:(rd_T63 l ((i:Int) - 1)).f0 ≥ x.f0:=by
        refine Int.not_lt.mp fun a=>hn ⟨h1,h2,h3,fun _=>a⟩
       simp only[h1,h2,h3,h4,e1,e2,e3,h5,and_self,if_true]
       exact Ev.now _
      ·exact absurd ⟨h1,h2,h3,fun a=>absurd a (by omega)⟩ hn
     ·simp only[h1,h2,h3,and_self,if_true,if_false];exact Ev.now _
    ·simp only[h1,h2,and_self,if_true,if_false];exact Ev.now _
   ·simp only[h1,if_false];exact Ev.now _
  ·have c0:(0:Int)≤(i:Int):=by omega
   have c1:(i:Int)<(l.length:Int):=by omega
   have er:rd_T63 l (i:Int)=x:=getD_get hx
   obtain⟨h1,h2,h3,h4⟩:=hr
   refine Ev.shift ?_
   simp only[Xt.l0,c0,c1,if_true,er,place_eq,wnum_eq,Option.bind_some,decide_eq_true_eq,h1,h2,h3,and_self,succ64 hi (by omega)]
   by_cases h5:(i:Int) > 0
   ·have e1:wrap64 ((i:Int) - 1)=(i:Int) - 1:=w64 (by omega) (by omega)
    have e2:(0:Int)≤(i:Int) - 1:=by omega
    have e3:(i:Int) - 1<(l.length:Int):=by omega
    have h6:¬ (rd_T63 l ((i:Int) - 1)).f0 ≥ x.f0:=Int.not_le.mpr (h4 (by omega))
    simp only[h5,e1,e2,e3,h6,if_true,if_false]
    exact h
   ·simp only[h5,if_false]
    exact h
def dP (x:mD):Prop:=descP x.f0 x.f1 x.f2 x.f3.f0 x.f3.f1
def smD (d:List mD):Prop:=∀ x ∈ d,x.f2.length≤1048576
def markP (d:List mD) (i:Nat) (x:mW):Prop:=wordP d.length x∧(x.f1=0 ∨ ((entL (rd_T58 d (x.f1 - 1)).f2 (i:Int)).2.2.2=true∧(rd_T58 d (x.f1 - 1)).f0=x.f2))
def memP (w:List mW) (d:List mD):Prop:=(w.length=20∧1≤d.length∧d.length≤4)∧(∀ x ∈ d,dP x)∧∀ i x,w[i]? = some x→markP d i x
theorem Xbs (w:List mW) (d:List mD) (hw:w.length≤1048576) (hd:d.length≤1048576) (sd:smD d):EvB (fun k=>Xm.l1 k 0 w d) (∀ i x,w[i]? = some x→markP d i x):=by
 refine(EvB.each w (R:=markP d) (Q:=True) (g:=fun i k=>Xm.l1 k (i:Int) w d) (fun _ => ?_) (fun i x hx hi hp hn => ?_) (fun i x hx hi hp hr r h => ?_)).iff (by simp)
 ·refine EvB.yes (Ev.shift ?_) trivial
  simp only[Xm.l1,Int.lt_irrefl,if_false]
  exact Ev.now _
 ·have c0:(0:Int)≤(i:Int):=by omega
  have c1:(i:Int)<(w.length:Int):=by omega
  have er:rd_T51 w (i:Int)=x:=getD_get hx
  refine Ev.shift ?_
  simp only[Xm.l1,c0,c1,if_true,er]
  refine EvB.then_ (Xa7 d.length x) (fun hwp => ?_) (fun hwp=>Ev.neg (by decide) (Ev.now _))
  refine Ev.pos rfl ?_
  by_cases hz:x.f1=0
  ·exact absurd ⟨hwp,.inl hz⟩ hn
  ·obtain⟨b1,b2⟩:1≤x.f1∧x.f1≤(d.length:Int):=by unfold wordP at hwp;omega
   have e1:wrap64 (x.f1 - 1)=x.f1 - 1:=w64 (by omega) (by omega)
   have e2:(0:Int)≤x.f1 - 1:=by omega
   have e3:x.f1 - 1<(d.length:Int):=by omega
   have e4:x.f1 > 0:=by omega
   have e5:(rd_T58 d (x.f1 - 1)).f2.length≤1048576:=by
    obtain⟨j,hj⟩:∃ j:Nat,x.f1 - 1=(j:Int):=⟨(x.f1 - 1).toNat,by omega⟩
    have hjl:j<d.length:=by omega
    rw[hj,show rd_T58 d (j:Int)=d[j] from getD_get (List.getElem?_eq_getElem hjl)]
    exact sd _ (List.getElem_mem hjl)
   simp only[e4,e1,e2,e3,if_true]
   refine Ev.bind (XaX _ _ _ _ _ (i:Int) (by omega)) ?_
   by_cases g1:(entL (rd_T58 d (x.f1 - 1)).f2 (i:Int)).2.2.2=true
   ·refine Ev.pos g1 (Ev.neg (fun g2=>hn ⟨hwp,.inr ⟨g1,g2⟩⟩) (Ev.now _))
   ·exact Ev.neg g1 (Ev.now _)
 ·have c0:(0:Int)≤(i:Int):=by omega
  have c1:(i:Int)<(w.length:Int):=by omega
  have er:rd_T51 w (i:Int)=x:=getD_get hx
  obtain⟨hwp,hm⟩:=hr
  refine Ev.shift ?_
  simp only[Xm.l1,c0,c1,if_true,er,succ64 hi (by omega)]
  refine Ev.bind ((Xa7 d.length x).val hwp) (Ev.pos rfl ?_)
  rcases hm with hz | ⟨g1,g2⟩
  ·exact Ev.neg (by omega) h
  ·by_cases hz:x.f1=0
   ·exact Ev.neg (by omega) h
   ·obtain⟨b1,b2⟩:1≤x.f1∧x.f1≤(d.length:Int):=by unfold wordP at hwp;omega
    have e1:wrap64 (x.f1 - 1)=x.f1 - 1:=w64 (by omega) (by omega)
    have e2:(0:Int)≤x.f1 - 1:=by omega
    have e3:x.f1 - 1<(d.length:Int):=by omega
    have e4:x.f1 > 0:=by omega
    have e5:(rd_T58 d (x.f1 - 1)).f2.length≤1048576:=by
     obtain⟨j,hj⟩:∃ j:Nat,x.f1 - 1=(j:Int):=⟨(x.f1 - 1).toNat,by omega⟩
     have hjl:j<d.length:=by omega
     rw[hj,show rd_T58 d (j:Int)=d[j] from getD_get (List.getElem?_eq_getElem hjl)]
     exact sd _ (List.getElem_mem hjl)
    simp only[e4,e1,e2,e3,if_true]
    exact Ev.bind (XaX _ _ _ _ _ (i:Int) (by omega)) (Ev.pos g1 (Ev.pos g2 h))
theorem Xbt (w:List mW) (d:List mD) (hw:w.length≤1048576) (hd:d.length≤1048576) (sd:smD d):EvB (fun k=>Xy.l0 k w (w.length:Int) 0 w d) (∀ i x,w[i]? = some x→markP d i x):=by
 refine(EvB.each w (R:=markP d) (Q:=True) (g:=fun i k=>Xy.l0 k w (w.length:Int) (i:Int) w d) (fun _ => ?_) (fun i x hx hi hp hn => ?_) (fun i x hx hi hp hr r h => ?_)).iff (by simp)
 ·refine EvB.yes (Ev.shift ?_) trivial
  simp only[Xy.l0,Int.lt_irrefl,if_false]
  exact Ev.now _
 ·have c0:(0:Int)≤(i:Int):=by omega
  have c1:(i:Int)<(w.length:Int):=by omega
  have er:rd_T51 w (i:Int)=x:=getD_get hx
  refine Ev.shift ?_
  simp only[Xy.l0,c0,c1,if_true,er]
  refine EvB.then_ (Xa8 d.length x) (fun hwp => ?_) (fun hwp=>Ev.neg (by decide) (Ev.now _))
  refine Ev.pos rfl ?_
  by_cases hz:x.f1=0
  ·exact absurd ⟨hwp,.inl hz⟩ hn
  ·obtain⟨b1,b2⟩:1≤x.f1∧x.f1≤(d.length:Int):=by unfold wordP at hwp;omega
   have e1:wrap64 (x.f1 - 1)=x.f1 - 1:=w64 (by omega) (by omega)
   have e2:(0:Int)≤x.f1 - 1:=by omega
   have e3:x.f1 - 1<(d.length:Int):=by omega
   have e5:(rd_T58 d (x.f1 - 1)).f2.length≤1048576:=by
    obtain⟨j,hj⟩:∃ j:Nat,x.f1 - 1=(j:Int):=⟨(x.f1 - 1).toNat,by omega⟩
    have hjl:j<d.length:=by omega
    rw[hj,show rd_T58 d (j:Int)=d[j] from getD_get (List.getElem?_eq_getElem hjl)]
    exact sd _ (List.getElem_mem hjl)
   simp only[hz,e1,e2,e3,if_true,if_false]
   refine Ev.bind (XaY _ _ _ _ _ (i:Int) (by omega)) ?_
   by_cases g1:(entL (rd_T58 d (x.f1 - 1)).f2 (i:Int)).2.2.2=true
   ·refine Ev.pos g1 (Ev.neg (fun g2=>hn ⟨hwp,.inr ⟨g1,g2⟩⟩) (Ev.now _))
   ·exact Ev.neg g1 (Ev.now _)
 ·have c0:(0:Int)≤(i:Int):=by omega
  have c1:(i:Int)<(w.length:Int):=by omega
  have er:rd_T51 w (i:Int)=x:=getD_get hx
  obtain⟨hwp,hm⟩:=hr
  refine Ev.shift ?_
  simp only[Xy.l0,c0,c1,if_true,er,succ64 hi (by omega)]
  refine Ev.bind ((Xa8 d.length x).val hwp) (Ev.pos rfl ?_)
  rcases hm with hz | ⟨g1,g2⟩
  ·exact Ev.pos hz h
  ·by_cases hz:x.f1=0
   ·exact Ev.pos hz h
   ·obtain⟨b1,b2⟩:1≤x.f1∧x.f1≤(d.length:Int):=by unfold wordP at hwp;omega
    have e1:wrap64 (x.f1 - 1)=x.f1 - 1:=w64 (by omega) (by omega)
    have e2:(0:Int)≤x.f1 - 1:=by omega
    have e3:x.f1 - 1<(d.length:Int):=by omega
    have e5:(rd_T58 d (x.f1 - 1)).f2.length≤1048576:=by
     obtain⟨j,hj⟩:∃ j:Nat,x.f1 - 1=(j:Int):=⟨(x.f1 - 1).toNat,by omega⟩
     have hjl:j<d.length:=by omega
     rw[hj,show rd_T58 d (j:Int)=d[j] from getD_get (List.getElem?_eq_getElem hjl)]
     exact sd _ (List.getElem_mem hjl)
    simp only[hz,e1,e2,e3,if_true,if_false]
    exact Ev.bind (XaY _ _ _ _ _ (i:Int) (by omega)) (Ev.pos g1 (Ev.pos g2 h))
theorem XaV (w:List mW) (d:List mD) (hw:w.length≤1048576) (hd:d.length≤1048576) (sd:smD d):EvB (fun k=>Xm.f k w d) (memP w d):=by
 simp only[Xm.f,specIn_eq,Option.bind_some]
 refine EvB.ite (fun h0 => ?_) (fun h0=>EvB.no (Ev.shift (by simp only[Xm.j0,if_true];exact Ev.now _)) (fun p=>absurd p.1.1 (by omega)))
 by_cases h1:1≤(d.length:Int)∧(d.length:Int)≤4
 ·refine EvB.shift ?_
  simp only[h1,and_self,decide_true,Bool.not_true,Xm.j0,Bool.false_eq_true,if_false]
  refine(EvB.each d (R:=fun _ x=>dP x) (Q:=∀ i x,w[i]? = some x→markP d i x) (g:=fun i k=>Xm.l0 k (i:Int) w d) (fun _ => ?_) (fun i x hx hi hp hn => ?_) (fun i x hx hi hp hr r h => ?_)).iff ?_
  ·refine EvB.shift ?_
   simp only[Xm.l0,Int.lt_irrefl,if_false]
   exact Xbs w d hw hd sd
  ·have c0:(0:Int)≤(i:Int):=by omega
   have c1:(i:Int)<(d.length:Int):=by omega
   have er:rd_T58 d (i:Int)=x:=getD_get hx
   refine Ev.shift ?_
   simp only[Xm.l0,c0,c1,if_true,er]
   exact Ev.bind ((Xa9 _ _ _ _ _ (sd x (List.mem_of_getElem? hx))).nval hn) (Ev.neg (by decide) (Ev.now _))
  ·have c0:(0:Int)≤(i:Int):=by omega
   have c1:(i:Int)<(d.length:Int):=by omega
   have er:rd_T58 d (i:Int)=x:=getD_get hx
   refine Ev.shift ?_
   simp only[Xm.l0,c0,c1,if_true,er,succ64 hi (by omega)]
   exact Ev.bind ((Xa9 _ _ _ _ _ (sd x (List.mem_of_getElem? hx))).val hr) (Ev.pos rfl h)
  ·rw[each_mem]
   exact⟨fun p=>⟨⟨by omega,by omega,by omega⟩,p⟩,fun p=>p.2⟩
 ·refine EvB.no (Ev.shift ?_) (fun p=>h1 (by have:=p.1.2;omega))
  simp only[h1,decide_false,Bool.not_false,Xm.j0,if_true]
  exact Ev.now _
theorem Xbc (w:List mW) (d:List mD) (hw:w.length≤1048576) (hd:d.length≤1048576) (sd:smD d):EvB (fun k=>Xy.f k w d) (memP w d):=by
 simp only[Xy.f,implFrom_eq,Option.bind_some,decide_eq_true_eq]
 have bad:Ev (fun k=>Xy.j0 k true w d) false:=Ev.shift (by simp only[Xy.j0,if_true];exact Ev.now _)
 refine EvB.ite (fun h0 => ?_) (fun h0=>EvB.no bad (fun p=>absurd p.1.1 (by omega)))
 refine EvB.ite (fun h1 => ?_) (fun h1=>EvB.no bad (fun p=>h1 (by have:=p.1.2;omega)))
 obtain⟨r,q1,q2,q3⟩:=first_ev d (fun x=>¬ dP x) (g:=fun i k=>XJ.l0 k d (d.length:Int) (i:Int)) (by
  refine Ev.shift ?_
  simp only[XJ.l0,Int.lt_irrefl,if_false]
  exact Ev.now _) (fun i x hx hi hn=>by
  have c0:(0:Int)≤(i:Int):=by omega
  have c1:(i:Int)<(d.length:Int):=by omega
  have er:rd_T58 d (i:Int)=x:=getD_get hx
  refine Ev.shift ?_
  simp only[XJ.l0,c0,c1,if_true,er,Xaz.f]
  exact Ev.bind (Ev.bind ((Xba _ _ _ _ _ (sd x (List.mem_of_getElem? hx))).nval hn) (Ev.now _)) (Ev.pos rfl (Ev.now _))) (fun i x hx hi hn r h=>by
  have c0:(0:Int)≤(i:Int):=by omega
  have c1:(i:Int)<(d.length:Int):=by omega
  have er:rd_T58 d (i:Int)=x:=getD_get hx
  refine Ev.shift ?_
  simp only[XJ.l0,c0,c1,if_true,er,Xaz.f,succ64 hi (by omega)]
  exact Ev.bind (Ev.bind ((Xba _ _ _ _ _ (sd x (List.mem_of_getElem? hx))).val (Classical.not_not.mp hn)) (Ev.now _)) (Ev.neg (by decide) h))
 have q4:(∀ x ∈ d,dP x) ↔ ¬ r ≥ 0:=by
  rw[q3]
  exact⟨fun p ⟨x,hx,hn⟩=>hn (p x hx),fun p x hx=>Classical.byContradiction fun hn=>p ⟨x,hx,hn⟩⟩
 have hf:Ev (fun k=>Xai.f k d) (decide (r ≥ 0)):=by
  simp only[Xai.f,XJ.f]
  exact Ev.bind q1 (Ev.now _)
 refine EvB.at hf ?_
 by_cases h2:r ≥ 0
 ·refine EvB.no ?_ (fun p=>q4.mp p.2.1 h2)
  simp only[h2,decide_true]
  exact bad
 ·refine EvB.shift ?_
  simp only[h2,decide_false,Xy.j0,Bool.false_eq_true,if_false]
  exact(Xbt w d hw hd sd).iff ⟨fun p=>⟨⟨by omega,by omega,by omega⟩,q4.mpr h2,p⟩,fun p=>p.2.2⟩
end Go.Proofs.YthejoblnfpaojaaGreat.P
