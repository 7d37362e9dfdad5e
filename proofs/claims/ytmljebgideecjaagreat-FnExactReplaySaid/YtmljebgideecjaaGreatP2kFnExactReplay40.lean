/- A part of the proof of the law FnExactReplay: texts of this seat, merged (words, printed functions of the program, plain lemmas). Conditions: none of its own. -/
import Derived.Test.YtmljebgideecjaaGreatP2kFnExactReplay35
import Derived.Test.YtmljebgideecjaaGreatP2kFnExactReplay36
import Derived.Test.YtmljebgideecjaaGreatP2kFnExactReplay37
set_option linter.unusedSimpArgs false
set_option linter.unusedVariables false
set_option maxHeartbeats 8000000
set_option maxRecDepth 100000
namespace Go.Proofs.YtmljebgideecjaaGreat.P2
open Go.RowKit Go.Proofs.YtmljebgideecjaaGreatW.PrintWords Go.Proofs.YtmljebgideecjaaGreatW.PrintLast Go.Proofs.YtmljebgideecjaaGreatZ
theorem place_eq (n:Int):Xah.f n=some (decide (0≤n∧n≤19)):=by simp only[Xah.f,implFrom_eq,Option.bind_some]
theorem wnum_eq (n:Int):XE.f n=some (decide (0≤n∧n≤1000)):=by simp only[XE.f,implFrom_eq,Option.bind_some]
def wordP (n:Int) (w:mW):Prop:=(w.f1=0∧w.f2=0∧0≤w.f0∧w.f0≤1000) ∨ (w.f1 ≠ 0∧w.f0=0∧(1≤w.f1∧w.f1≤n)∧1≤w.f2∧w.f2≤1000000)
theorem XbC (n:Int) (w:mW):EvB (fun _=>Xas.f w.f0 w.f1 w.f2 n) (wordP n w):=by
 simp only[Xas.f,specIn_eq,Option.bind_some,decide_eq_true_eq]
 refine EvB.ite (fun h1=>EvB.ite (fun h2=>EvB.now ?_) (fun h2=>EvB.no (Ev.now _) ?_)) (fun h1=>EvB.ite (fun h2=>EvB.ite (fun h3=>EvB.now ?_) (fun h3=>EvB.no (Ev.now _) ?_)) (fun h2=>EvB.no (Ev.now _) ?_))
 ·rw[decide_eq_true_iff];unfold wordP;omega
 ·unfold wordP;omega
 ·rw[decide_eq_true_iff];unfold wordP;omega
 ·unfold wordP;omega
 ·unfold wordP;omega
theorem XbD (n:Int) (w:mW):EvB (fun _=>XaQ.f w.f0 w.f1 w.f2 n) (wordP n w):=by
 simp only[XaQ.f,wnum_eq,implFrom_eq,Option.bind_some,decide_eq_true_eq]
 refine EvB.ite (fun h1=>EvB.ite (fun h2=>EvB.now ?_) (fun h2=>EvB.no (Ev.now _) ?_)) (fun h1=>EvB.ite (fun h2=>EvB.ite (fun h3=>EvB.now ?_) (fun h3=>EvB.no (Ev.now _) ?_)) (fun h2=>EvB.no (Ev.now _) ?_))
 ·rw[beq_iff_eq];unfold wordP;omega
 ·unfold wordP;omega
 ·rw[decide_eq_true_iff];unfold wordP;omega
 ·unfold wordP;omega
 ·unfold wordP;omega
def entP (l:List mE) (i:Nat) (e:mE):Prop:=(0≤e.f0∧e.f0≤19)∧(0≤e.f1∧e.f1≤1000)∧(0≤e.f2∧e.f2≤1000)∧(0<i→(rd_T165 l ((i:Int) - 1)).f0<e.f0)
def descP (a b:Int) (l:List mE) (c:Int) (q:List Int):Prop :=
 (a=0∧b=0∧l.length=0∧c=0∧q.length=0) ∨ (a ≠ 0∧(1≤a∧a≤1000000)∧(1≤b∧b≤3)∧l.length≤20∧∀ i e,l[i]? = some e→entP l i e)
theorem desc_zero {a b c:Int} {l:List mE} {q:List Int} (h:a=0):descP a b l c q ↔ (b=0∧l.length=0∧c=0∧q.length=0) :=
 ⟨fun p=>p.elim (fun x=>x.2) (fun x=>absurd h x.1),fun p => .inl ⟨h,p⟩⟩
theorem desc_some {a b c:Int} {l:List mE} {q:List Int} (h:¬ a=0):descP a b l c q ↔ ((1≤a∧a≤1000000)∧(1≤b∧b≤3)∧l.length≤20∧∀ i e,l[i]? = some e→entP l i e) :=
 ⟨fun p=>p.elim (fun x=>absurd x.1 h) (fun x=>x.2),fun p => .inr ⟨h,p⟩⟩
theorem XbP (a b:Int) (l:List mE) (c:Int) (q:List Int) (hl:l.length≤1048576):EvB (fun k=>Xf.l0 k 0 a b l c q) (∀ i e,l[i]? = some e→entP l i e):=by
 refine(EvB.each l (R:=entP l) (Q:=True) (g:=fun i k=>Xf.l0 k (i:Int) a b l c q) (fun _ => ?_) (fun i x hx hi hp hn => ?_) (fun i x hx hi hp hr r h => ?_)).iff (by simp)
 ·refine EvB.yes (Ev.shift ?_) trivial
  simp only[Xf.l0,Int.lt_irrefl,if_false]
  exact Ev.now _
 ·have c0:(0:Int)≤(i:Int):=by omega
  have c1:(i:Int)<(l.length:Int):=by omega
  have er:rd_T165 l (i:Int)=x:=getD_get hx
  refine Ev.shift ?_
  simp only[Xf.l0,c0,c1,if_true,er,specIn_eq,Option.bind_some,decide_eq_true_eq]
  by_cases h1:0≤x.f0∧x.f0≤19
  ·by_cases h2:0≤x.f1∧x.f1≤1000
   ·by_cases h3:0≤x.f2∧x.f2≤1000
    ·by_cases h4:(i:Int) > 0
     ·have e1:wrap64 ((i:Int) - 1)=(i:Int) - 1:=w64 (by omega) (by omega)
      have e2:(0:Int)≤(i:Int) - 1:=by omega
      have e3:(i:Int) - 1<(l.length:Int):=by omega
      have h5:(rd_T165 l ((i:Int) - 1)).f0 ≥ x.f0:=by
       refine Int.not_lt.mp fun a=>hn ⟨h1,h2,h3,fun _=>a⟩
      simp only[h1,h2,h3,h4,e1,e2,e3,h5,and_self,if_true]
      exact Ev.now _
     ·exact absurd ⟨h1,h2,h3,fun a=>absurd a (by omega)⟩ hn
    ·simp only[h1,h2,h3,and_self,if_true,if_false];exact Ev.now _
   ·simp only[h1,h2,and_self,if_true,if_false];exact Ev.now _
  ·simp only[h1,if_false];exact Ev.now _
 ·have c0:(0:Int)≤(i:Int):=by omega
  have c1:(i:Int)<(l.length:Int):=by omega
  have er:rd_T165 l (i:Int)=x:=getD_get hx
  obtain⟨h1,h2,h3,h4⟩:=hr
  refine Ev.shift ?_
  simp only[Xf.l0,c0,c1,if_true,er,specIn_eq,Option.bind_some,decide_eq_true_eq,h1,h2,h3,and_self,succ64 hi (by omega)]
  by_cases h5:(i:Int) > 0
  ·have e1:wrap64 ((i:Int) - 1)=(i:Int) - 1:=w64 (by omega) (by omega)
   have e2:(0:Int)≤(i:Int) - 1:=by omega
   have e3:(i:Int) - 1<(l.length:Int):=by omega
   have h6:¬ (rd_T165 l ((i:Int) - 1)).f0 ≥ x.f0:=Int.not_le.mpr (h4 (by omega))
   simp only[h5,e1,e2,e3,h6,if_true,if_false]
   exact h
  ·simp only[h5,if_false]
   exact h
theorem XbE (a b:Int) (l:List mE) (c:Int) (q:List Int) (hl:l.length≤1048576):EvB (fun k=>Xf.f k a b l c q) (descP a b l c q):=by
 simp only[Xf.f,specIn_eq,Option.bind_some,decide_eq_true_eq]
 refine EvB.ite (fun h0 => ?_) (fun h0 => ?_)
 ·refine EvB.iff ?_ (desc_zero h0).symm
  refine EvB.ite (fun h1=>EvB.ite (fun h2=>EvB.ite (fun h3=>EvB.now ?_) (fun h3=>EvB.no (Ev.now _) ?_)) (fun h2=>EvB.no (Ev.now _) ?_)) (fun h1=>EvB.no (Ev.now _) ?_)
  ·rw[beq_iff_eq];omega
  ·omega
  ·omega
  ·omega
 ·refine EvB.iff ?_ (desc_some h0).symm
  have bad:∀ z,¬ ((1≤a∧a≤1000000)∧(1≤b∧b≤3)∧l.length≤20) ∨ z→z→True:=fun _ _ _=>trivial
  refine EvB.ite (fun h1=>EvB.ite (fun h2 => ?_) (fun h2=>EvB.no (Ev.shift ?_) (fun p=>h2 p.2.1))) (fun h1=>EvB.no (Ev.shift ?_) (fun p=>h1 p.1))
  ·by_cases h3:(l.length:Int) > 20
   ·refine EvB.no (Ev.shift ?_) (fun p=>absurd p.2.2.1 (by omega))
    simp only[Xf.j0,h3,decide_true,if_true]
    exact Ev.now _
   ·refine EvB.shift ?_
    simp only[Xf.j0,h3,decide_false,Bool.false_eq_true,if_false]
    exact(XbP a b l c q hl).iff ⟨fun p=>⟨h1,h2,by omega,p⟩,fun p=>p.2.2.2⟩
  ·simp only[Xf.j0,if_true];exact Ev.now _
  ·simp only[Xf.j0,if_true];exact Ev.now _
theorem XbF (a b:Int) (l:List mE) (c:Int) (q:List Int) (hl:l.length≤1048576):EvB (fun k=>Xn.f k a b l c q) (descP a b l c q):=by
 simp only[Xn.f]
 refine EvB.ite (fun h0 => ?_) (fun h0 => ?_)
 ·refine EvB.iff ?_ (desc_zero h0).symm
  refine EvB.ite (fun h1=>EvB.ite (fun h2=>EvB.ite (fun h3=>EvB.now ?_) (fun h3=>EvB.no (Ev.now _) ?_)) (fun h2=>EvB.no (Ev.now _) ?_)) (fun h1=>EvB.no (Ev.now _) ?_)
  ·rw[beq_iff_eq];omega
  ·omega
  ·omega
  ·omega
 ·refine EvB.iff ?_ (desc_some h0).symm
  refine(EvB.each l (R:=entP l) (Q:=(1≤a∧a≤1000000)∧(1≤b∧b≤3)∧l.length≤20) (g:=fun i k=>Xn.l0 k l (l.length:Int) (i:Int) a b l c q) (fun _ => ?_) (fun i x hx hi hp hn => ?_) (fun i x hx hi hp hr r h => ?_)).iff ⟨fun p=>⟨p.2.1,p.2.2.1,p.2.2.2,p.1⟩,fun p=>⟨p.2.2.2,p.1,p.2.1,p.2.2.1⟩⟩
  ·refine EvB.shift ?_
   simp only[Xn.l0,Int.lt_irrefl,if_false,implFrom_eq,Option.bind_some,decide_eq_true_eq]
   refine EvB.ite (fun h1=>EvB.ite (fun h2=>EvB.now ?_) (fun h2=>EvB.no (Ev.now _) (fun p=>h2 p.2.1))) (fun h1=>EvB.no (Ev.now _) (fun p=>h1 p.1))
   rw[decide_eq_true_iff]
   exact⟨fun p=>⟨h1,h2,by omega⟩,fun p=>by omega⟩
  ·have c0:(0:Int)≤(i:Int):=by omega
   have c1:(i:Int)<(l.length:Int):=by omega
   have er:rd_T165 l (i:Int)=x:=getD_get hx
   refine Ev.shift ?_
   simp only[Xn.l0,c0,c1,if_true,er,place_eq,wnum_eq,Option.bind_some,decide_eq_true_eq]
   by_cases h1:0≤x.f0∧x.f0≤19
   ·by_cases h2:0≤x.f1∧x.f1≤1000
    ·by_cases h3:0≤x.f2∧x.f2≤1000
     ·by_cases h4:(i:Int) > 0
      ·have e1:wrap64 ((i:Int) - 1)=(i:Int) - 1:=w64 (by omega) (by omega)
       have e2:(0:Int)≤(i:Int) - 1:=by omega
       have e3:(i:Int) - 1<(l.length:Int):=by omega
       have h5:(rd_T165 l ((i:Int) - 1)).f0 ≥ x.f0:=by
        refine Int.not_lt.mp fun a=>hn ⟨h1,h2,h3,fun _=>a⟩
       simp only[h1,h2,h3,h4,e1,e2,e3,h5,and_self,if_true]
       exact Ev.now _
      ·exact absurd ⟨h1,h2,h3,fun a=>absurd a (by omega)⟩ hn
     ·simp only[h1,h2,h3,and_self,if_true,if_false];exact Ev.now _
    ·simp only[h1,h2,and_self,if_true,if_false];exact Ev.now _
   ·simp only[h1,if_false];exact Ev.now _
  ·have c0:(0:Int)≤(i:Int):=by omega
   have c1:(i:Int)<(l.length:Int):=by omega
   have er:rd_T165 l (i:Int)=x:=getD_get hx
   obtain⟨h1,h2,h3,h4⟩:=hr
   refine Ev.shift ?_
   simp only[Xn.l0,c0,c1,if_true,er,place_eq,wnum_eq,Option.bind_some,decide_eq_true_eq,h1,h2,h3,and_self,succ64 hi (by omega)]
   by_cases h5:(i:Int) > 0
   ·have e1:wrap64 ((i:Int) - 1)=(i:Int) - 1:=w64 (by omega) (by omega)
    have e2:(0:Int)≤(i:Int) - 1:=by omega
    have e3:(i:Int) - 1<(l.length:Int):=by omega
    have h6:¬ (rd_T165 l ((i:Int) - 1)).f0 ≥ x.f0:=Int.not_le.mpr (h4 (by omega))
    simp only[h5,e1,e2,e3,h6,if_true,if_false]
    exact h
   ·simp only[h5,if_false]
    exact h
def dP (x:mD):Prop:=descP x.f0 x.f1 x.f2 x.f3.f0 x.f3.f1
def smD (d:List mD):Prop:=∀ x ∈ d,x.f2.length≤1048576
def markP (d:List mD) (i:Nat) (x:mW):Prop:=wordP d.length x∧(x.f1=0 ∨ ((entL (rd_T162 d (x.f1 - 1)).f2 (i:Int)).2.2.2=true∧(rd_T162 d (x.f1 - 1)).f0=x.f2))
def memP (w:List mW) (d:List mD):Prop:=(w.length=20∧1≤d.length∧d.length≤4)∧(∀ x ∈ d,dP x)∧∀ i x,w[i]? = some x→markP d i x
theorem XbY (w:List mW) (d:List mD) (hw:w.length≤1048576) (hd:d.length≤1048576) (sd:smD d):EvB (fun k=>Xp.l1 k 0 w d) (∀ i x,w[i]? = some x→markP d i x):=by
 refine(EvB.each w (R:=markP d) (Q:=True) (g:=fun i k=>Xp.l1 k (i:Int) w d) (fun _ => ?_) (fun i x hx hi hp hn => ?_) (fun i x hx hi hp hr r h => ?_)).iff (by simp)
 ·refine EvB.yes (Ev.shift ?_) trivial
  simp only[Xp.l1,Int.lt_irrefl,if_false]
  exact Ev.now _
 ·have c0:(0:Int)≤(i:Int):=by omega
  have c1:(i:Int)<(w.length:Int):=by omega
  have er:rd_T140 w (i:Int)=x:=getD_get hx
  refine Ev.shift ?_
  simp only[Xp.l1,c0,c1,if_true,er]
  refine EvB.then_ (XbC d.length x) (fun hwp => ?_) (fun hwp=>Ev.neg (by decide) (Ev.now _))
  refine Ev.pos rfl ?_
  by_cases hz:x.f1=0
  ·exact absurd ⟨hwp,.inl hz⟩ hn
  ·obtain⟨b1,b2⟩:1≤x.f1∧x.f1≤(d.length:Int):=by unfold wordP at hwp;omega
   have e1:wrap64 (x.f1 - 1)=x.f1 - 1:=w64 (by omega) (by omega)
   have e2:(0:Int)≤x.f1 - 1:=by omega
   have e3:x.f1 - 1<(d.length:Int):=by omega
   have e4:x.f1 > 0:=by omega
   have e5:(rd_T162 d (x.f1 - 1)).f2.length≤1048576:=by
    obtain⟨j,hj⟩:∃ j:Nat,x.f1 - 1=(j:Int):=⟨(x.f1 - 1).toNat,by omega⟩
    have hjl:j<d.length:=by omega
    rw[hj,show rd_T162 d (j:Int)=d[j] from getD_get (List.getElem?_eq_getElem hjl)]
    exact sd _ (List.getElem_mem hjl)
   simp only[e4,e1,e2,e3,if_true]
   refine Ev.bind (Xbt _ _ _ _ _ (i:Int) (by omega)) ?_
   by_cases g1:(entL (rd_T162 d (x.f1 - 1)).f2 (i:Int)).2.2.2=true
   ·refine Ev.pos g1 (Ev.neg (fun g2=>hn ⟨hwp,.inr ⟨g1,g2⟩⟩) (Ev.now _))
   ·exact Ev.neg g1 (Ev.now _)
 ·have c0:(0:Int)≤(i:Int):=by omega
  have c1:(i:Int)<(w.length:Int):=by omega
  have er:rd_T140 w (i:Int)=x:=getD_get hx
  obtain⟨hwp,hm⟩:=hr
  refine Ev.shift ?_
  simp only[Xp.l1,c0,c1,if_true,er,succ64 hi (by omega)]
  refine Ev.bind ((XbC d.length x).val hwp) (Ev.pos rfl ?_)
  rcases hm with hz | ⟨g1,g2⟩
  ·exact Ev.neg (by omega) h
  ·by_cases hz:x.f1=0
   ·exact Ev.neg (by omega) h
   ·obtain⟨b1,b2⟩:1≤x.f1∧x.f1≤(d.length:Int):=by unfold wordP at hwp;omega
    have e1:wrap64 (x.f1 - 1)=x.f1 - 1:=w64 (by omega) (by omega)
    have e2:(0:Int)≤x.f1 - 1:=by omega
    have e3:x.f1 - 1<(d.length:Int):=by omega
    have e4:x.f1 > 0:=by omega
    have e5:(rd_T162 d (x.f1 - 1)).f2.length≤1048576:=by
     obtain⟨j,hj⟩:∃ j:Nat,x.f1 - 1=(j:Int):=⟨(x.f1 - 1).toNat,by omega⟩
     have hjl:j<d.length:=by omega
     rw[hj,show rd_T162 d (j:Int)=d[j] from getD_get (List.getElem?_eq_getElem hjl)]
     exact sd _ (List.getElem_mem hjl)
    simp only[e4,e1,e2,e3,if_true]
    exact Ev.bind (Xbt _ _ _ _ _ (i:Int) (by omega)) (Ev.pos g1 (Ev.pos g2 h))
theorem XbZ (w:List mW) (d:List mD) (hw:w.length≤1048576) (hd:d.length≤1048576) (sd:smD d):EvB (fun k=>XB.l0 k w (w.length:Int) 0 w d) (∀ i x,w[i]? = some x→markP d i x):=by
 refine(EvB.each w (R:=markP d) (Q:=True) (g:=fun i k=>XB.l0 k w (w.length:Int) (i:Int) w d) (fun _ => ?_) (fun i x hx hi hp hn => ?_) (fun i x hx hi hp hr r h => ?_)).iff (by simp)
 ·refine EvB.yes (Ev.shift ?_) trivial
  simp only[XB.l0,Int.lt_irrefl,if_false]
  exact Ev.now _
 ·have c0:(0:Int)≤(i:Int):=by omega
  have c1:(i:Int)<(w.length:Int):=by omega
  have er:rd_T140 w (i:Int)=x:=getD_get hx
  refine Ev.shift ?_
  simp only[XB.l0,c0,c1,if_true,er]
  refine EvB.then_ (XbD d.length x) (fun hwp => ?_) (fun hwp=>Ev.neg (by decide) (Ev.now _))
  refine Ev.pos rfl ?_
  by_cases hz:x.f1=0
  ·exact absurd ⟨hwp,.inl hz⟩ hn
  ·obtain⟨b1,b2⟩:1≤x.f1∧x.f1≤(d.length:Int):=by unfold wordP at hwp;omega
   have e1:wrap64 (x.f1 - 1)=x.f1 - 1:=w64 (by omega) (by omega)
   have e2:(0:Int)≤x.f1 - 1:=by omega
   have e3:x.f1 - 1<(d.length:Int):=by omega
   have e5:(rd_T162 d (x.f1 - 1)).f2.length≤1048576:=by
    obtain⟨j,hj⟩:∃ j:Nat,x.f1 - 1=(j:Int):=⟨(x.f1 - 1).toNat,by omega⟩
    have hjl:j<d.length:=by omega
    rw[hj,show rd_T162 d (j:Int)=d[j] from getD_get (List.getElem?_eq_getElem hjl)]
    exact sd _ (List.getElem_mem hjl)
   simp only[hz,e1,e2,e3,if_true,if_false]
   refine Ev.bind (Xbu _ _ _ _ _ (i:Int) (by omega)) ?_
   by_cases g1:(entL (rd_T162 d (x.f1 - 1)).f2 (i:Int)).2.2.2=true
   ·refine Ev.pos g1 (Ev.neg (fun g2=>hn ⟨hwp,.inr ⟨g1,g2⟩⟩) (Ev.now _))
   ·exact Ev.neg g1 (Ev.now _)
 ·have c0:(0:Int)≤(i:Int):=by omega
  have c1:(i:Int)<(w.length:Int):=by omega
  have er:rd_T140 w (i:Int)=x:=getD_get hx
  obtain⟨hwp,hm⟩:=hr
  refine Ev.shift ?_
  simp only[XB.l0,c0,c1,if_true,er,succ64 hi (by omega)]
  refine Ev.bind ((XbD d.length x).val hwp) (Ev.pos rfl ?_)
  rcases hm with hz | ⟨g1,g2⟩
  ·exact Ev.pos hz h
  ·by_cases hz:x.f1=0
   ·exact Ev.pos hz h
   ·obtain⟨b1,b2⟩:1≤x.f1∧x.f1≤(d.length:Int):=by unfold wordP at hwp;omega
    have e1:wrap64 (x.f1 - 1)=x.f1 - 1:=w64 (by omega) (by omega)
    have e2:(0:Int)≤x.f1 - 1:=by omega
    have e3:x.f1 - 1<(d.length:Int):=by omega
    have e5:(rd_T162 d (x.f1 - 1)).f2.length≤1048576:=by
     obtain⟨j,hj⟩:∃ j:Nat,x.f1 - 1=(j:Int):=⟨(x.f1 - 1).toNat,by omega⟩
     have hjl:j<d.length:=by omega
     rw[hj,show rd_T162 d (j:Int)=d[j] from getD_get (List.getElem?_eq_getElem hjl)]
     exact sd _ (List.getElem_mem hjl)
    simp only[hz,e1,e2,e3,if_true,if_false]
    exact Ev.bind (Xbu _ _ _ _ _ (i:Int) (by omega)) (Ev.pos g1 (Ev.pos g2 h))
theorem Xb0 (w:List mW) (d:List mD) (hw:w.length≤1048576) (hd:d.length≤1048576) (sd:smD d):EvB (fun k=>Xp.f k w d) (memP w d):=by
 simp only[Xp.f,specIn_eq,Option.bind_some]
 refine EvB.ite (fun h0 => ?_) (fun h0=>EvB.no (Ev.shift (by simp only[Xp.j0,if_true];exact Ev.now _)) (fun p=>absurd p.1.1 (by omega)))
 by_cases h1:1≤(d.length:Int)∧(d.length:Int)≤4
 ·refine EvB.shift ?_
  simp only[h1,and_self,decide_true,Bool.not_true,Xp.j0,Bool.false_eq_true,if_false]
  refine(EvB.each d (R:=fun _ x=>dP x) (Q:=∀ i x,w[i]? = some x→markP d i x) (g:=fun i k=>Xp.l0 k (i:Int) w d) (fun _ => ?_) (fun i x hx hi hp hn => ?_) (fun i x hx hi hp hr r h => ?_)).iff ?_
  ·refine EvB.shift ?_
   simp only[Xp.l0,Int.lt_irrefl,if_false]
   exact XbY w d hw hd sd
  ·have c0:(0:Int)≤(i:Int):=by omega
   have c1:(i:Int)<(d.length:Int):=by omega
   have er:rd_T162 d (i:Int)=x:=getD_get hx
   refine Ev.shift ?_
   simp only[Xp.l0,c0,c1,if_true,er]
   exact Ev.bind ((XbE _ _ _ _ _ (sd x (List.mem_of_getElem? hx))).nval hn) (Ev.neg (by decide) (Ev.now _))
  ·have c0:(0:Int)≤(i:Int):=by omega
   have c1:(i:Int)<(d.length:Int):=by omega
   have er:rd_T162 d (i:Int)=x:=getD_get hx
   refine Ev.shift ?_
   simp only[Xp.l0,c0,c1,if_true,er,succ64 hi (by omega)]
   exact Ev.bind ((XbE _ _ _ _ _ (sd x (List.mem_of_getElem? hx))).val hr) (Ev.pos rfl h)
  ·rw[each_mem]
   exact⟨fun p=>⟨⟨by omega,by omega,by omega⟩,p⟩,fun p=>p.2⟩
 ·refine EvB.no (Ev.shift ?_) (fun p=>h1 (by have:=p.1.2;omega))
  simp only[h1,decide_false,Bool.not_false,Xp.j0,if_true]
  exact Ev.now _
theorem Xb1 (w:List mW) (d:List mD) (hw:w.length≤1048576) (hd:d.length≤1048576) (sd:smD d):EvB (fun k=>XB.f k w d) (memP w d):=by
 simp only[XB.f,implFrom_eq,Option.bind_some,decide_eq_true_eq]
 have bad:Ev (fun k=>XB.j0 k true w d) false:=Ev.shift (by simp only[XB.j0,if_true];exact Ev.now _)
 refine EvB.ite (fun h0 => ?_) (fun h0=>EvB.no bad (fun p=>absurd p.1.1 (by omega)))
 refine EvB.ite (fun h1 => ?_) (fun h1=>EvB.no bad (fun p=>h1 (by have:=p.1.2;omega)))
 obtain⟨r,q1,q2,q3⟩:=first_ev d (fun x=>¬ dP x) (g:=fun i k=>XH.l0 k d (d.length:Int) (i:Int)) (by
  refine Ev.shift ?_
  simp only[XH.l0,Int.lt_irrefl,if_false]
  exact Ev.now _) (fun i x hx hi hn=>by
  have c0:(0:Int)≤(i:Int):=by omega
  have c1:(i:Int)<(d.length:Int):=by omega
  have er:rd_T162 d (i:Int)=x:=getD_get hx
  refine Ev.shift ?_
  simp only[XH.l0,c0,c1,if_true,er,XaS.f]
  exact Ev.bind (Ev.bind ((XbF _ _ _ _ _ (sd x (List.mem_of_getElem? hx))).nval hn) (Ev.now _)) (Ev.pos rfl (Ev.now _))) (fun i x hx hi hn r h=>by
  have c0:(0:Int)≤(i:Int):=by omega
  have c1:(i:Int)<(d.length:Int):=by omega
  have er:rd_T162 d (i:Int)=x:=getD_get hx
  refine Ev.shift ?_
  simp only[XH.l0,c0,c1,if_true,er,XaS.f,succ64 hi (by omega)]
  exact Ev.bind (Ev.bind ((XbF _ _ _ _ _ (sd x (List.mem_of_getElem? hx))).val (Classical.not_not.mp hn)) (Ev.now _)) (Ev.neg (by decide) h))
 have q4:(∀ x ∈ d,dP x) ↔ ¬ r ≥ 0:=by
  rw[q3]
  exact⟨fun p ⟨x,hx,hn⟩=>hn (p x hx),fun p x hx=>Classical.byContradiction fun hn=>p ⟨x,hx,hn⟩⟩
 have hf:Ev (fun k=>Xaz.f k d) (decide (r ≥ 0)):=by
  simp only[Xaz.f,XH.f]
  exact Ev.bind q1 (Ev.now _)
 refine EvB.at hf ?_
 by_cases h2:r ≥ 0
 ·refine EvB.no ?_ (fun p=>q4.mp p.2.1 h2)
  simp only[h2,decide_true]
  exact bad
 ·refine EvB.shift ?_
  simp only[h2,decide_false,XB.j0,Bool.false_eq_true,if_false]
  exact(XbZ w d hw hd sd).iff ⟨fun p=>⟨⟨by omega,by omega,by omega⟩,q4.mpr h2,p⟩,fun p=>p.2.2⟩
theorem op_key {a b c:Int} (h:opOk a b c=true) (ha:1≤a∧a≤4):0≤b∧b≤3:=by
 unfold opOk keyB at h
 have:a=1 ∨ a=2 ∨ a=3 ∨ a=4:=by omega
 rcases this with rfl | rfl | rfl | rfl<;>(simp at h;omega)
theorem fails_both (h:List Int) (s a b c code:Int) (ho:opOk a b c=true) (hl:h.length=4):∃ r:Bool,Ev (fun k=>Xac.f k h s a b c code) r∧Ev (fun k=>Xj.f k h s a b c code) r:=by
 obtain⟨key,k1,k2⟩:=keyBoth h (by omega) s c
 have hb:1≤a∧a≤4→0≤b∧b<(h.length:Int):=fun ha=>by have:=op_key ho ha;omega
 simp only[Xac.f,Xj.f]
 by_cases e1:code=1
 ·by_cases a1:a=1
  ·obtain⟨b1,b2⟩:=hb (by omega)
   exact⟨_,Ev.bind k1 (Ev.pos e1 (Ev.pos a1 (Ev.pos b1 (Ev.pos b2 (Ev.now _))))),Ev.bind k2 (Ev.pos e1 (Ev.pos a1 (Ev.pos b1 (Ev.pos b2 (Ev.now _)))))⟩
  ·exact⟨_,Ev.bind k1 (Ev.pos e1 (Ev.neg a1 (Ev.now _))),Ev.bind k2 (Ev.pos e1 (Ev.neg a1 (Ev.now _)))⟩
 by_cases e2:code=2
 ·by_cases a1:a=1
  ·exact⟨_,Ev.bind k1 (Ev.neg e1 (Ev.pos e2 (Ev.pos a1 (Ev.now _)))),Ev.bind k2 (Ev.neg e1 (Ev.pos e2 (Ev.pos a1 (Ev.now _))))⟩
  by_cases a2:a=2
  ·exact⟨_,Ev.bind k1 (Ev.neg e1 (Ev.pos e2 (Ev.neg a1 (Ev.pos a2 (Ev.now _))))),Ev.bind k2 (Ev.neg e1 (Ev.pos e2 (Ev.neg a1 (Ev.pos a2 (Ev.now _)))))⟩
  ·exact⟨_,Ev.bind k1 (Ev.neg e1 (Ev.pos e2 (Ev.neg a1 (Ev.neg a2 (Ev.now _))))),Ev.bind k2 (Ev.neg e1 (Ev.pos e2 (Ev.neg a1 (Ev.neg a2 (Ev.now _)))))⟩
 by_cases e3:code=3
 ·have red:∀ m n:Bool,0≤b→b<(h.length:Int)→Ev (fun k=>Xac.j0 k m n a true h s a b c) (rd h b == 0):=fun m n b1 b2=>by
   refine Ev.shift ?_
   simp only[Xac.j0,if_true]
   exact Ev.pos b1 (Ev.pos b2 (Ev.now _))
  have red2:0≤b→b<(h.length:Int)→Ev (fun k=>Xj.j0 k code key true h s a b c) (rd h b == 0):=fun b1 b2=>by
   refine Ev.shift ?_
   simp only[Xj.j0,if_true]
   exact Ev.pos b1 (Ev.pos b2 (Ev.now _))
  by_cases a2:a=2
  ·obtain⟨b1,b2⟩:=hb (by omega)
   have ea:(a == 2)=true:=by rw[beq_iff_eq];exact a2
   refine⟨rd h b == 0,Ev.bind k1 (Ev.neg e1 (Ev.neg e2 (Ev.pos e3 (Ev.pos a2 ?_)))),Ev.bind k2 (Ev.neg e1 (Ev.neg e2 (Ev.pos e3 (Ev.pos a2 (red2 b1 b2)))))⟩
   simp only[ea];exact red _ _ b1 b2
  by_cases a3:a=3
  ·obtain⟨b1,b2⟩:=hb (by omega)
   have ea:(a == 3)=true:=by rw[beq_iff_eq];exact a3
   refine⟨rd h b == 0,Ev.bind k1 (Ev.neg e1 (Ev.neg e2 (Ev.pos e3 (Ev.neg a2 (Ev.pos a3 ?_))))),Ev.bind k2 (Ev.neg e1 (Ev.neg e2 (Ev.pos e3 (Ev.neg a2 (Ev.pos a3 (red2 b1 b2))))))⟩
   simp only[ea];exact red _ _ b1 b2
  by_cases a4:a=4
  ·obtain⟨b1,b2⟩:=hb (by omega)
   have ea:(a == 4)=true:=by rw[beq_iff_eq];exact a4
   refine⟨rd h b == 0,Ev.bind k1 (Ev.neg e1 (Ev.neg e2 (Ev.pos e3 (Ev.neg a2 (Ev.neg a3 ?_))))),Ev.bind k2 (Ev.neg e1 (Ev.neg e2 (Ev.pos e3 (Ev.neg a2 (Ev.neg a3 ?_)))))⟩
   ·simp only[ea];exact red _ _ b1 b2
   ·simp only[ea];exact red2 b1 b2
  have ea:(a == 4)=false:=by rw[beq_eq_false_iff_ne];exact a4
  refine⟨if a=5 then !decide (key ≥ 0) else if a=10 then (if s=5 then !decide (key ≥ 0) else false) else false,Ev.bind k1 (Ev.neg e1 (Ev.neg e2 (Ev.pos e3 (Ev.neg a2 (Ev.neg a3 ?_))))),Ev.bind k2 (Ev.neg e1 (Ev.neg e2 (Ev.pos e3 (Ev.neg a2 (Ev.neg a3 ?_)))))⟩
  ·simp only[ea]
   refine Ev.shift ?_
   simp only[Xac.j0,Bool.false_eq_true,if_false]
   by_cases a5:a=5
   ·refine Ev.rpos a5 ?_;exact Ev.pos a5 (Ev.now _)
   ·refine Ev.rneg a5 ?_
    refine Ev.neg a5 ?_
    by_cases a10:a=10
    ·refine Ev.rpos a10 ?_
     refine Ev.pos a10 ?_
     by_cases hs:s=5
     ·refine Ev.rpos hs ?_;exact Ev.pos (by rw[beq_iff_eq];exact hs) (Ev.now _)
     ·refine Ev.rneg hs ?_;exact Ev.neg (by rw[beq_iff_eq];exact hs) (Ev.now _)
    ·refine Ev.rneg a10 ?_;exact Ev.neg a10 (Ev.now _)
  ·simp only[ea]
   refine Ev.shift ?_
   simp only[Xj.j0,Bool.false_eq_true,if_false,Xak.f,Option.bind_some]
   refine Ev.pos e3 ?_
   by_cases hk:key<0
   ·refine Ev.pos hk ?_
    have hd:(!decide (key ≥ 0))=true:=by simp;omega
    by_cases a5:a=5
    ·refine Ev.rpos a5 ?_;rw[hd];exact Ev.pos a5 (Ev.now _)
    ·refine Ev.rneg a5 ?_
     refine Ev.neg a5 ?_
     by_cases a10:a=10
     ·refine Ev.rpos a10 ?_;rw[hd]
      refine Ev.pos a10 (Ev.val ?_)
      by_cases hs:s=5
      ·rw[if_pos hs];exact beq_iff_eq.mpr hs
      ·rw[if_neg hs];exact beq_eq_false_iff_ne.mpr hs
     ·refine Ev.rneg a10 ?_;exact Ev.neg a10 (Ev.now _)
   ·refine Ev.neg hk (Ev.val ?_)
    have hd:(!decide (key ≥ 0))=false:=by simp;omega
    rw[hd]
    simp
 by_cases e4:code=4
 ·have go:∀ m n:Bool,m=(a == 8)→Ev (fun k=>Xj.j1 k code m h s a b c) (if a=8 then s != 0 else if a=9 then (if s=0 then true else (s == 5)) else if a=10 then !(s == 5) else false):=fun m n hm=>by
   subst hm
   refine Ev.shift ?_
   simp only[Xj.j1,Xak.f,Option.bind_some,beq_iff_eq]
   by_cases a8:a=8
   ·refine Ev.rpos a8 ?_;exact Ev.pos a8 (Ev.now _)
   ·refine Ev.rneg a8 ?_
    refine Ev.neg a8 (Ev.pos e4 (Ev.shift ?_))
    simp only[Xj.j2,Xak.f,Option.bind_some,beq_iff_eq]
    by_cases a9:a=9
    ·refine Ev.rpos a9 ?_
     refine Ev.pos a9 ?_
     by_cases hs:s=0
     ·refine Ev.rpos hs ?_;exact Ev.pos hs (Ev.now _)
     ·refine Ev.rneg hs ?_;exact Ev.neg hs (Ev.now _)
    ·refine Ev.rneg a9 ?_
     refine Ev.neg a9 (Ev.pos e4 ?_)
     by_cases a10:a=10
     ·refine Ev.rpos a10 ?_;exact Ev.pos a10 (Ev.now _)
     ·refine Ev.rneg a10 ?_;exact Ev.neg a10 (Ev.now _)
  refine⟨if a=8 then s != 0 else if a=9 then (if s=0 then true else (s == 5)) else if a=10 then !(s == 5) else false,Ev.bind k1 (Ev.neg e1 (Ev.neg e2 (Ev.neg e3 (Ev.pos e4 ?_)))),Ev.bind k2 (Ev.neg e1 (Ev.neg e2 (Ev.neg e3 (Ev.shift ?_))))⟩
  ·by_cases a8:a=8
   ·refine Ev.rpos a8 ?_;exact Ev.pos a8 (Ev.now _)
   ·refine Ev.rneg a8 ?_
    refine Ev.neg a8 ?_
    by_cases a9:a=9
    ·refine Ev.rpos a9 ?_
     refine Ev.pos a9 ?_
     by_cases hs:s=0
     ·refine Ev.rpos hs ?_;exact Ev.pos hs (Ev.now _)
     ·refine Ev.rneg hs ?_;exact Ev.neg hs (Ev.now _)
    ·refine Ev.rneg a9 ?_
     refine Ev.neg a9 ?_
     by_cases a10:a=10
     ·refine Ev.rpos a10 ?_;exact Ev.pos a10 (Ev.now _)
     ·refine Ev.rneg a10 ?_;exact Ev.neg a10 (Ev.now _)
  ·simp only[Xj.j0,Bool.false_eq_true,if_false,Xak.f,Option.bind_some]
   exact Ev.neg e3 (Ev.pos e4 (go _ true rfl))
 ·refine⟨false,Ev.bind k1 (Ev.neg e1 (Ev.neg e2 (Ev.neg e3 (Ev.neg e4 (Ev.now _))))),Ev.bind k2 (Ev.neg e1 (Ev.neg e2 (Ev.neg e3 (Ev.shift ?_))))⟩
  simp only[Xj.j0,Bool.false_eq_true,if_false]
  refine Ev.neg e3 (Ev.neg e4 (Ev.shift ?_))
  simp only[Xj.j1,Bool.false_eq_true,if_false]
  refine Ev.neg e4 (Ev.shift ?_)
  simp only[Xj.j2,Bool.false_eq_true,if_false]
  exact Ev.neg e4 (Ev.now _)
theorem done_both (h:List Int) (s a b c:Int) (ho:opOk a b c=true) (hl:h.length=4) (hs:0≤s∧s≤5):∃ r:List Int × Bool,r.1.length≤4∧Ev (fun k=>Xm.f k h s a b c) r∧Ev (fun k=>Xi.f k h s a b c) r:=by
 obtain⟨key,k1,k2⟩:=keyBoth h (by omega) s c
 obtain⟨many,m1,m2⟩:=manyBoth h (by omega) s b
 have hb:1≤a∧a≤4→0≤b∧b<(h.length:Int):=fun ha=>by have:=op_key ho ha;omega
 simp only[Xm.f,Xi.f,Option.bind_some]
 by_cases a1:a=1
 ·obtain⟨b1,b2⟩:=hb (by omega)
  by_cases z:rd h b=0
  ·exact⟨([],decide (key<0)),Nat.zero_le _,Ev.bind k1 (Ev.pos a1 (Ev.pos b1 (Ev.pos b2 (Ev.pos z (Ev.now _))))),Ev.bind k2 (Ev.pos a1 (Ev.pos b1 (Ev.pos b2 (Ev.pos z (Ev.now _)))))⟩
  ·exact⟨([],false),Nat.zero_le _,Ev.bind k1 (Ev.pos a1 (Ev.pos b1 (Ev.pos b2 (Ev.neg z (Ev.now _))))),Ev.bind k2 (Ev.pos a1 (Ev.pos b1 (Ev.pos b2 (Ev.neg z (Ev.now _)))))⟩
 by_cases a2:a=2
 ·obtain⟨b1,b2⟩:=hb (by omega)
  by_cases z:rd h b=0
  ·exact⟨([],false),Nat.zero_le _,Ev.bind k1 (Ev.neg a1 (Ev.pos a2 (Ev.pos b1 (Ev.pos b2 (Ev.pos z (Ev.now _)))))),Ev.bind k2 (Ev.neg a1 (Ev.pos a2 (Ev.pos b1 (Ev.pos b2 (Ev.pos z (Ev.now _))))))⟩
  ·by_cases y:key<0
   ·exact⟨([],true),Nat.zero_le _,Ev.bind k1 (Ev.neg a1 (Ev.pos a2 (Ev.pos b1 (Ev.pos b2 (Ev.neg z (Ev.pos y (Ev.now _))))))),Ev.bind k2 (Ev.neg a1 (Ev.pos a2 (Ev.pos b1 (Ev.pos b2 (Ev.neg z (Ev.pos y (Ev.now _)))))))⟩
   ·exact⟨([],key == b),Nat.zero_le _,Ev.bind k1 (Ev.neg a1 (Ev.pos a2 (Ev.pos b1 (Ev.pos b2 (Ev.neg z (Ev.neg y (Ev.now _))))))),Ev.bind k2 (Ev.neg a1 (Ev.pos a2 (Ev.pos b1 (Ev.pos b2 (Ev.neg z (Ev.neg y (Ev.now _)))))))⟩
 by_cases a3:a=3
 ·obtain⟨b1,b2⟩:=hb (by omega)
  exact⟨([],rd h b != 0),Nat.zero_le _,Ev.bind k1 (Ev.neg a1 (Ev.neg a2 (Ev.pos a3 (Ev.pos b1 (Ev.pos b2 (Ev.now _)))))),Ev.bind k2 (Ev.neg a1 (Ev.neg a2 (Ev.pos a3 (Ev.pos b1 (Ev.pos b2 (Ev.now _))))))⟩
 by_cases a4:a=4
 ·obtain⟨b1,b2⟩:=hb (by omega)
  exact⟨([rd h b],rd h b != 0),by simp,Ev.bind k1 (Ev.neg a1 (Ev.neg a2 (Ev.neg a3 (Ev.pos a4 (Ev.pos b1 (Ev.pos b2 (Ev.now _))))))),Ev.bind k2 (Ev.neg a1 (Ev.neg a2 (Ev.neg a3 (Ev.pos a4 (Ev.pos b1 (Ev.pos b2 (Ev.now _)))))))⟩
 by_cases a5:a=5
 ·exact⟨([key],decide (key ≥ 0)),by simp,Ev.bind k1 (Ev.neg a1 (Ev.neg a2 (Ev.neg a3 (Ev.neg a4 (Ev.pos a5 (Ev.now _)))))),Ev.bind k2 (Ev.neg a1 (Ev.neg a2 (Ev.neg a3 (Ev.neg a4 (Ev.pos a5 (Ev.now _))))))⟩
 by_cases a6:a=6
 ·exact⟨([many],true),by simp,Ev.bind k1 (Ev.neg a1 (Ev.neg a2 (Ev.neg a3 (Ev.neg a4 (Ev.neg a5 (Ev.pos a6 (Ev.bind m1 (Ev.now _)))))))),Ev.bind k2 (Ev.neg a1 (Ev.neg a2 (Ev.neg a3 (Ev.neg a4 (Ev.neg a5 (Ev.pos a6 (Ev.bind m2 (Ev.now _))))))))⟩
 by_cases a7:a=7
 ·refine⟨(h,true),by simp;omega,Ev.bind k1 (Ev.neg a1 (Ev.neg a2 (Ev.neg a3 (Ev.neg a4 (Ev.neg a5 (Ev.neg a6 (Ev.pos a7 (Ev.pos ?_ (Ev.val ?_))))))))),Ev.bind k2 (Ev.neg a1 (Ev.neg a2 (Ev.neg a3 (Ev.neg a4 (Ev.neg a5 (Ev.neg a6 (Ev.pos a7 (Ev.now _))))))))⟩
  ·simp only[List.length_nil];omega
  ·rw[List.nil_append]
 by_cases a8:a=8
 ·exact⟨([],s == 0),Nat.zero_le _,Ev.bind k1 (Ev.neg a1 (Ev.neg a2 (Ev.neg a3 (Ev.neg a4 (Ev.neg a5 (Ev.neg a6 (Ev.neg a7 (Ev.pos a8 (Ev.now _))))))))),Ev.bind k2 (Ev.neg a1 (Ev.neg a2 (Ev.neg a3 (Ev.neg a4 (Ev.neg a5 (Ev.neg a6 (Ev.neg a7 (Ev.pos a8 (Ev.now _)))))))))⟩
 by_cases a9:a=9
 ·refine⟨([],decide (1≤s∧s≤4)),Nat.zero_le _,Ev.bind k1 (Ev.neg a1 (Ev.neg a2 (Ev.neg a3 (Ev.neg a4 (Ev.neg a5 (Ev.neg a6 (Ev.neg a7 (Ev.neg a8 (Ev.pos a9 ?_))))))))),Ev.bind k2 (Ev.neg a1 (Ev.neg a2 (Ev.neg a3 (Ev.neg a4 (Ev.neg a5 (Ev.neg a6 (Ev.neg a7 (Ev.neg a8 (Ev.pos a9 ?_)))))))))⟩
  ·simp only[specIn_eq,Option.bind_some];exact Ev.now _
  ·simp only[Xak.f,Option.bind_some]
   by_cases z:s=0
   ·refine Ev.pos z (Ev.val ?_)
    have:¬ (1≤s∧s≤4):=by omega
    simp only[this,decide_false]
   ·refine Ev.neg z (Ev.val ?_)
    congr 1
    by_cases y:s=5
    ·subst y;decide
    ·have e1:(s == 5)=false:=beq_eq_false_iff_ne.mpr y
     have e2:1≤s∧s≤4:=by omega
     simp only[e1,e2,and_self,decide_true,Bool.not_false]
 ·refine⟨if s=5 then ([key],decide (key ≥ 0)) else ([key],false),by split<;>simp,Ev.bind k1 (Ev.neg a1 (Ev.neg a2 (Ev.neg a3 (Ev.neg a4 (Ev.neg a5 (Ev.neg a6 (Ev.neg a7 (Ev.neg a8 (Ev.neg a9 ?_))))))))),Ev.bind k2 (Ev.neg a1 (Ev.neg a2 (Ev.neg a3 (Ev.neg a4 (Ev.neg a5 (Ev.neg a6 (Ev.neg a7 (Ev.neg a8 (Ev.neg a9 ?_)))))))))⟩
  ·by_cases z:s=5
   ·refine Ev.rpos z ?_;exact Ev.pos z (Ev.now _)
   ·refine Ev.rneg z ?_;exact Ev.neg z (Ev.now _)
  ·simp only[Xak.f,Option.bind_some]
   by_cases y:key ≥ 0
   ·refine Ev.pos y (Ev.val ?_)
    by_cases z:s=5
    ·rw[if_pos z];subst z;simp only[y,decide_true];rfl
    ·rw[if_neg z,beq_eq_false_iff_ne.mpr z]
   ·refine Ev.neg y (Ev.val ?_)
    simp only[y,decide_false]
    split<;>rfl
theorem allowed_both (h:List Int) (s a b c code:Int) (l:List Int) (hl:h.length≤1048576) (hll:l.length≤1048576) :
  ∃ r:Bool,Ev (fun k=>XV.f k h s a b c code l) r∧Ev (fun k=>XW.f k h s a b c code l) r∧(r=true→opOk a b c=true∧h.length=4):=by
 simp only[XV.f,XW.f]
 have bad1:Ev (fun k=>XV.j0 k true h s a b c code l) false:=Ev.shift (by simp only[XV.j0,if_true];exact Ev.now _)
 have bad2:Ev (fun k=>XW.j0 k true h s a b c code l) false:=Ev.shift (by simp only[XW.j0,if_true];exact Ev.now _)
 have r1:=Xbz h s hl
 have r2:=XbA h s hl
 cases hk:okB h 0 s
 ·rw[hk] at r1 r2
  exact⟨false,Ev.bind r1 (Ev.neg (by decide) bad1),Ev.bind r2 (Ev.neg (by decide) bad2),fun a=>Bool.noConfusion a⟩
 rw[hk] at r1 r2
 obtain⟨h4,s0,s5,_⟩:=okB_elim hk
 have o1:=Xbr a b c
 have o2:=Xbo a b c
 cases ho:opOk a b c
 ·rw[ho] at o1 o2
  exact⟨false,Ev.bind r1 (Ev.pos rfl (Ev.bind o1 bad1)),Ev.bind r2 (Ev.pos rfl (Ev.bind o2 bad2)),fun a=>Bool.noConfusion a⟩
 rw[ho] at o1 o2
 by_cases z:code=0
 ·obtain⟨q,q0,q1,q2⟩:=done_both h s a b c ho h4 ⟨s0,s5⟩
  refine⟨if q.2=true then decide (q.1=l) else false,Ev.bind r1 (Ev.pos rfl (Ev.bind o1 (Ev.shift ?_))),Ev.bind r2 (Ev.pos rfl (Ev.bind o2 (Ev.shift ?_))),fun _=>⟨rfl,h4⟩⟩
  ·simp only[XV.j0,Bool.not_true,Bool.false_eq_true,if_false]
   refine Ev.pos z (Ev.bind q1 ?_)
   cases hq:q.2
   ·exact Ev.neg (by decide) (Ev.now _)
   ·exact Ev.pos rfl (Ev.bind (ints_ev q.1 l (by omega) hll) (Ev.now _))
  ·simp only[XW.j0,Bool.not_true,Bool.false_eq_true,if_false]
   refine Ev.pos z (Ev.bind q2 ?_)
   cases hq:q.2
   ·exact Ev.neg (by decide) (Ev.now _)
   ·exact Ev.pos rfl (Ev.bind (equal_ev q.1 l (by omega)) (Ev.now _))
 ·obtain⟨q,q1,q2⟩:=fails_both h s a b c code ho h4
  refine⟨if (l.length:Int)=0 then q else false,Ev.bind r1 (Ev.pos rfl (Ev.bind o1 (Ev.shift ?_))),Ev.bind r2 (Ev.pos rfl (Ev.bind o2 (Ev.shift ?_))),fun _=>⟨rfl,h4⟩⟩
  ·simp only[XV.j0,Bool.not_true,Bool.false_eq_true,if_false]
   refine Ev.neg z ?_
   by_cases y:(l.length:Int)=0
   ·refine Ev.rpos y ?_;exact Ev.pos y (Ev.bind q1 (Ev.now _))
   ·refine Ev.rneg y ?_;exact Ev.neg y (Ev.now _)
  ·simp only[XW.j0,Bool.not_true,Bool.false_eq_true,if_false]
   refine Ev.neg z ?_
   by_cases y:(l.length:Int)=0
   ·refine Ev.rpos y ?_;exact Ev.pos y (Ev.bind q2 (Ev.now _))
   ·refine Ev.rneg y ?_;exact Ev.neg y (Ev.now _)
theorem specCopy_ev (h:List Int) (s:Int) (hl:h.length≤1048576):Xad.f h s=some (h,s):=by
 have:([]:List Int).length+h.length<17592186044416:=by simp only[List.length_nil];omega
 simp only[Xad.f,Option.bind_some,this,if_true,List.nil_append]
theorem implCopy_ev (h:List Int) (s:Int) (hl:h.length≤1048576):XaF.f h s=some (h,s):=by
 have:h.length≤17592186044416:=by omega
 simp only[XaF.f,slices_Clone_int_int.f,this,if_true,Option.bind_some]
theorem after_both (h:List Int) (s a b c code:Int) (l:List Int) (hl:h.length≤1048576) (hll:l.length≤1048576) :
  ∃ r:List Int × Int,r.1.length=h.length∧Ev (fun k=>XA.f k h s a b c code l) r∧Ev (fun k=>XC.f k h s a b c code l) r:=by
 obtain⟨q,q1,q2,q3⟩:=allowed_both h s a b c code l hl hll
 simp only[XA.f,XC.f,specCopy_ev h s hl,implCopy_ev h s hl,Option.bind_some]
 have bad1:Ev (fun k=>XA.j0 k true h s a b c h s) (h,s):=Ev.shift (by simp only[XA.j0,if_true];exact Ev.now _)
 have bad2:Ev (fun k=>XC.j0 k true a b c h s) (h,s):=Ev.shift (by simp only[XC.j0,if_true];exact Ev.now _)
 cases q with
 | false=>exact⟨(h,s),rfl,Ev.bind q1 (Ev.neg (by decide) bad1),Ev.bind q2 (Ev.neg (by decide) bad2)⟩
 | true =>
  obtain⟨ho,h4⟩:=q3 rfl
  have hb:1≤a∧a≤4→0≤b∧b<(h.length:Int):=fun ha=>by have:=op_key ho ha;omega
  by_cases z:code=0
  ·have ez:(code != 0)=false:=by rw[z];rfl
   simp only[ez]
   by_cases a1:a=1
   ·obtain⟨b1,b2⟩:=hb (by omega)
    have ea:(a == 1)=true:=beq_iff_eq.mpr a1
    refine⟨(h.set b.toNat c,s),by simp,Ev.bind q1 (Ev.pos rfl (Ev.shift ?_)),Ev.bind q2 (Ev.pos rfl (Ev.shift ?_))⟩
    ·simp only[XA.j0,Bool.false_eq_true,if_false,ea]
     refine Ev.pos a1 (Ev.shift ?_)
     simp only[XA.j1,if_true]
     exact Ev.pos b1 (Ev.pos b2 (Ev.now _))
    ·simp only[XC.j0,Bool.false_eq_true,if_false,ea]
     refine Ev.pos a1 (Ev.shift ?_)
     simp only[XC.j1,if_true]
     exact Ev.pos b1 (Ev.pos b2 (Ev.now _))
   by_cases a2:a=2
   ·obtain⟨b1,b2⟩:=hb (by omega)
    have ea:(a == 2)=true:=beq_iff_eq.mpr a2
    refine⟨(h.set b.toNat c,s),by simp,Ev.bind q1 (Ev.pos rfl (Ev.shift ?_)),Ev.bind q2 (Ev.pos rfl (Ev.shift ?_))⟩
    ·simp only[XA.j0,Bool.false_eq_true,if_false,ea]
     refine Ev.neg a1 (Ev.shift ?_)
     simp only[XA.j1,if_true]
     exact Ev.pos b1 (Ev.pos b2 (Ev.now _))
    ·simp only[XC.j0,Bool.false_eq_true,if_false,ea]
     refine Ev.neg a1 (Ev.shift ?_)
     simp only[XC.j1,if_true]
     exact Ev.pos b1 (Ev.pos b2 (Ev.now _))
   have ea:(a == 2)=false:=beq_eq_false_iff_ne.mpr a2
   by_cases a3:a=3
   ·obtain⟨b1,b2⟩:=hb (by omega)
    refine⟨(h.set b.toNat 0,s),by simp,Ev.bind q1 (Ev.pos rfl (Ev.shift ?_)),Ev.bind q2 (Ev.pos rfl (Ev.shift ?_))⟩
    ·simp only[XA.j0,Bool.false_eq_true,if_false,ea]
     refine Ev.neg a1 (Ev.shift ?_)
     simp only[XA.j1,Bool.false_eq_true,if_false]
     exact Ev.pos a3 (Ev.pos b1 (Ev.pos b2 (Ev.now _)))
    ·simp only[XC.j0,Bool.false_eq_true,if_false,ea]
     refine Ev.neg a1 (Ev.shift ?_)
     simp only[XC.j1,Bool.false_eq_true,if_false]
     exact Ev.pos a3 (Ev.pos b1 (Ev.pos b2 (Ev.now _)))
   ·refine⟨if a=8 then (h,wrap64 (s+1)) else if a=9 then (h,wrap64 (s+1)) else (h,s),by split;rfl;split<;>rfl,Ev.bind q1 (Ev.pos rfl (Ev.shift ?_)),Ev.bind q2 (Ev.pos rfl (Ev.shift ?_))⟩
    ·simp only[XA.j0,Bool.false_eq_true,if_false,ea]
     refine Ev.neg a1 (Ev.shift ?_)
     simp only[XA.j1,Bool.false_eq_true,if_false]
     refine Ev.neg a3 ?_
     by_cases a8:a=8
     ·refine Ev.rpos a8 ?_;exact Ev.pos a8 (Ev.now _)
     ·refine Ev.rneg a8 ?_
      refine Ev.neg a8 ?_
      by_cases a9:a=9
      ·refine Ev.rpos a9 ?_;exact Ev.pos a9 (Ev.now _)
      ·refine Ev.rneg a9 ?_;exact Ev.neg a9 (Ev.now _)
    ·simp only[XC.j0,Bool.false_eq_true,if_false,ea]
     refine Ev.neg a1 (Ev.shift ?_)
     simp only[XC.j1,Bool.false_eq_true,if_false]
     refine Ev.neg a3 ?_
     by_cases a8:a=8
     ·refine Ev.rpos a8 ?_;exact Ev.pos a8 (Ev.now _)
     ·refine Ev.rneg a8 ?_
      refine Ev.neg a8 ?_
      by_cases a9:a=9
      ·refine Ev.rpos a9 ?_;exact Ev.pos a9 (Ev.now _)
      ·refine Ev.rneg a9 ?_;exact Ev.neg a9 (Ev.now _)
  ·have ez:(code != 0)=true:=by simp[z]
   simp only[ez]
   exact⟨(h,s),rfl,Ev.bind q1 (Ev.pos rfl bad1),Ev.bind q2 (Ev.pos rfl bad2)⟩
end Go.Proofs.YtmljebgideecjaaGreat.P2
