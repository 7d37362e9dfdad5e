/- A part of the proof of the law FnExactJudgeWords: texts of this seat, merged (words, printed functions of the program, plain lemmas). Conditions: none of its own. -/
import Derived.Test.YtmljebgideecjaaGreatP2kFnExactJudgeWords42
set_option linter.unusedSimpArgs false
set_option linter.unusedVariables false
set_option maxHeartbeats 8000000
set_option maxRecDepth 100000
namespace Go.Proofs.YtmljebgideecjaaGreat.P2
open Go.RowKit Go.Proofs.YtmljebgideecjaaGreatW.PrintWords Go.Proofs.YtmljebgideecjaaGreatW.PrintLast Go.Proofs.YtmljebgideecjaaGreatZ
def PureFnExactJudgeWords:Prop:=∀ (x0:S32),wf32 x0→∃ k,Xaq.f k x0.f0.f0 x0.f0.f1 x0.f1 x0.f2 x0.f3 x0.f4 x0.f5.f0 x0.f5.f1=some true
def smM (w:List mW) (d:List mD) (t:List mT) (c:List mC) (o q:List Int):Prop :=
 w.length≤1048576∧d.length≤1048576∧smD d∧t.length≤1048576∧(∀ x ∈ t,smT x)∧c.length≤1048576∧o.length≤1048576∧q.length≤1048576
def machP (w:List mW) (d:List mD) (t:List mT) (tm:Int) (c:List mC) (o q:List Int) (s:Int):Prop :=
 memP w d∧d.length=t.length∧(0≤tm∧tm≤100000)∧okB q 0 s=true∧((∀ x ∈ c,callP t.length tm x)∧c.length≤40∧ordersP c o)∧∀ (i:Nat) x,t[i]? = some x→thrP t.length x∧tcP (i:Int) x c
theorem XbA (w:List mW) (d:List mD) (t:List mT) (tm:Int) (c:List mC) (o q:List Int) (s:Int) (h:smM w d t c o q):EvB (fun k=>Xf.f k w d t tm c o q s) (machP w d t tm c o q s):=by
 obtain⟨s1,s2,s3,s4,s5,s6,s7,s8⟩:=h
 have bad:Ev (fun k=>Xf.j0 k true w d t tm c o q s) false:=Ev.shift (by simp only[Xf.j0,if_true];exact Ev.now _)
 simp only[Xf.f,specIn_eq,Option.bind_some,decide_eq_true_eq]
 refine EvB.bind (XbZ w d s1 s2 s3) (fun h1=>EvB.pos rfl ?_) (fun h1=>EvB.neg (by decide) (EvB.no bad (fun p=>h1 p.1)))
 refine EvB.ite (fun h2=>EvB.ite (fun h3 => ?_) (fun h3=>EvB.no bad (fun p=>h3 p.2.2.1))) (fun h2=>EvB.no bad (fun p=>h2 (by rw[p.2.1])))
 refine EvB.at (Xby q s s8) ?_
 refine EvB.ite (fun h4 => ?_) (fun h4=>EvB.no bad (fun p=>h4 p.2.2.2.1))
 refine EvB.bind (XbP w d t tm c o q s s4 s6 s7) (fun h5 => ?_) (fun h5=>EvB.no bad (fun p=>h5 p.2.2.2.2.1))
 refine EvB.shift ?_
 simp only[Bool.not_true,Xf.j0,Bool.false_eq_true,if_false]
 refine(EvB.each t (R:=fun i x=>thrP t.length x∧tcP (i:Int) x c) (Q:=True) (g:=fun i k=>Xf.l0 k (i:Int) w d t tm c o q s) (fun _ => ?_) (fun i x hx hi hp hn => ?_) (fun i x hx hi hp hr r g => ?_)).iff ⟨fun a=>⟨h1,by omega,h3,h4,h5,a.1⟩,fun a=>⟨a.2.2.2.2.2,trivial⟩⟩
 ·refine EvB.yes (Ev.shift ?_) trivial
  simp only[Xf.l0,Int.lt_irrefl,if_false]
  exact Ev.now _
 ·have c0:(0:Int)≤(i:Int):=by omega
  have c1:(i:Int)<(t.length:Int):=by omega
  have er:rd_T97 t (i:Int)=x:=getD_get hx
  refine Ev.shift ?_
  simp only[Xf.l0,c0,c1,if_true,er]
  refine EvB.then_ (XbC t.length x (s5 x (List.mem_of_getElem? hx))) (fun g1=>Ev.pos rfl ?_) (fun g1=>Ev.neg (by decide) (Ev.now _))
  exact Ev.bind ((XbF w d t tm c o q s i x hx g1.1 s6).nval (fun a=>hn ⟨g1,a⟩)) (Ev.neg (by decide) (Ev.now _))
 ·have c0:(0:Int)≤(i:Int):=by omega
  have c1:(i:Int)<(t.length:Int):=by omega
  have er:rd_T97 t (i:Int)=x:=getD_get hx
  refine Ev.shift ?_
  simp only[Xf.l0,c0,c1,if_true,er,succ64 hi (by omega)]
  refine Ev.bind ((XbC t.length x (s5 x (List.mem_of_getElem? hx))).val hr.1) (Ev.pos rfl ?_)
  exact Ev.bind ((XbF w d t tm c o q s i x hx hr.1.1 s6).val hr.2) (Ev.pos rfl g)
theorem when_eq (x:mC) (a tm:Int) (w:List mW) (d:List mD) (t:List mT) (c:List mC) (o q:List Int) (s:Int):EvB (fun _=>Xak.f x.f0 x.f1.f0 x.f1.f1 x.f1.f2 x.f2 x.f3 x.f4 x.f5.f0 x.f5.f1 a w d t tm c o q s) (a = -1 ∨ (x.f2≤a∧a≤tm)):=by
 simp only[Xak.f,implFrom_eq,Option.bind_some]
 refine EvB.ite (fun h=>EvB.yes (Ev.now _) (.inl h)) (fun h=>EvB.now ?_)
 rw[decide_eq_true_iff]
 exact⟨.inr,fun p=>p.elim (fun b=>absurd b h) id⟩
theorem XbU (w:List mW) (d:List mD) (t:List mT) (tm:Int) (c:List mC) (o q:List Int) (s:Int) (h:smM w d t c o q):EvB (fun k=>Xe.l1 k (t.length:Int) t (t.length:Int) 0 w d t tm c o q s) ((∀ (i:Nat) x,t[i]? = some x→thrP t.length x∧tcP (i:Int) x c)∧ordersP c o):=by
 obtain⟨s1,s2,s3,s4,s5,s6,s7,s8⟩:=h
 refine EvB.each t (R:=fun i x=>thrP t.length x∧tcP (i:Int) x c) (g:=fun i k=>Xe.l1 k (t.length:Int) t (t.length:Int) (i:Int) w d t tm c o q s) (fun _ => ?_) (fun i x hx hi hp hn => ?_) (fun i x hx hi hp hr r g => ?_)
 ·refine EvB.shift ?_
  simp only[Xe.l1,Int.lt_irrefl,if_false]
  exact EvB.bind (XbQ w d t tm c o q s s7 s6) (fun a=>EvB.yes (Ev.now _) a) (fun a=>EvB.no (Ev.now _) a)
 ·have c0:(0:Int)≤(i:Int):=by omega
  have c1:(i:Int)<(t.length:Int):=by omega
  have er:rd_T97 t (i:Int)=x:=getD_get hx
  refine Ev.shift ?_
  simp only[Xe.l1,c0,c1,if_true,er]
  refine EvB.then_ (XbD t.length (by omega) x (s5 x (List.mem_of_getElem? hx))) (fun g1=>Ev.pos rfl ?_) (fun g1=>Ev.neg (by decide) (Ev.now _))
  exact Ev.bind ((XbG w d t tm c o q s i x hx g1.1 s6).nval (fun a=>hn ⟨g1,a⟩)) (Ev.neg (by decide) (Ev.now _))
 ·have c0:(0:Int)≤(i:Int):=by omega
  have c1:(i:Int)<(t.length:Int):=by omega
  have er:rd_T97 t (i:Int)=x:=getD_get hx
  refine Ev.shift ?_
  simp only[Xe.l1,c0,c1,if_true,er,succ64 hi (by omega)]
  refine Ev.bind ((XbD t.length (by omega) x (s5 x (List.mem_of_getElem? hx))).val hr.1) (Ev.pos rfl ?_)
  exact Ev.bind ((XbG w d t tm c o q s i x hx hr.1.1 s6).val hr.2) (Ev.pos rfl g)
theorem XbB (w:List mW) (d:List mD) (t:List mT) (tm:Int) (c:List mC) (o q:List Int) (s:Int) (h:smM w d t c o q):EvB (fun k=>Xe.f k w d t tm c o q s) (machP w d t tm c o q s):=by
 have h0:=h
 obtain⟨s1,s2,s3,s4,s5,s6,s7,s8⟩:=h
 have hww:wrap64 ((t.length:Int) - 1)=(t.length:Int) - 1:=w64 (by omega) (by omega)
 have bad:Ev (fun k=>Xe.j0 k (t.length:Int) true w d t tm c o q s) false:=Ev.shift (by simp only[Xe.j0,if_true];exact Ev.now _)
 simp only[Xe.f,implFrom_eq,Option.bind_some,decide_eq_true_eq]
 refine EvB.bind (Xb0 w d s1 s2 s3) (fun h1=>EvB.pos rfl ?_) (fun h1=>EvB.neg (by decide) (EvB.no bad (fun p=>h1 p.1)))
 refine EvB.ite (fun h2=>EvB.ite (fun h3 => ?_) (fun h3=>EvB.no bad (fun p=>h3 p.2.2.1))) (fun h2=>EvB.no bad (fun p=>h2 (by rw[p.2.1])))
 refine EvB.ite (fun h6=>EvB.no bad (fun p=>absurd p.2.2.2.2.1.2.1 (by omega))) (fun h6 => ?_)
 refine EvB.at (Xbz q s s8) ?_
 cases h4:okB q 0 s
 ·exact EvB.no bad (fun p=>by rw[p.2.2.2.1] at h4;exact Bool.noConfusion h4)
 ·refine EvB.shift ?_
  simp only[Bool.not_true,Xe.j0,Bool.false_eq_true,if_false]
  refine(EvB.each c (R:=fun i x=>callP t.length tm x) (Q:=(∀ (i:Nat) x,t[i]? = some x→thrP t.length x∧tcP (i:Int) x c)∧ordersP c o) (g:=fun i k=>Xe.l0 k (t.length:Int) c (c.length:Int) (i:Int) w d t tm c o q s) (fun _ => ?_) (fun i x hx hi hp hn => ?_) (fun i x hx hi hp hr r g => ?_)).iff ?_
  ·refine EvB.shift ?_
   simp only[Xe.l0,Int.lt_irrefl,if_false]
   exact XbU w d t tm c o q s h0
  ·have c0:(0:Int)≤(i:Int):=by omega
   have c1:(i:Int)<(c.length:Int):=by omega
   have er:rd_T73 c (i:Int)=x:=getD_get hx
   refine Ev.shift ?_
   simp only[Xe.l0,c0,c1,if_true,er,implFrom_eq,Option.bind_some,decide_eq_true_eq,hww]
   by_cases g1:0≤x.f0∧x.f0≤(t.length:Int) - 1
   ·refine Ev.pos g1 (Ev.bind (Xbt _ _ _) ?_)
    by_cases g2:opP x.f1
    ·refine Ev.pos g2 ?_
     by_cases g3:0≤x.f2∧x.f2≤tm
     ·refine Ev.pos g3 (EvB.then_ (when_eq x x.f3 tm w d t c o q s) (fun g4=>Ev.pos rfl ?_) (fun g4=>Ev.neg (by decide) (Ev.now _)))
      exact Ev.bind ((when_eq x x.f4 tm w d t c o q s).nval (fun g5=>hn ⟨g1,g2,g3,g4,g5⟩)) (Ev.neg (by decide) (Ev.now _))
     ·exact Ev.neg g3 (Ev.now _)
    ·exact Ev.neg g2 (Ev.now _)
   ·exact Ev.neg g1 (Ev.now _)
  ·have c0:(0:Int)≤(i:Int):=by omega
   have c1:(i:Int)<(c.length:Int):=by omega
   have er:rd_T73 c (i:Int)=x:=getD_get hx
   obtain⟨g1,g2,g3,g4,g5⟩:=hr
   refine Ev.shift ?_
   simp only[Xe.l0,c0,c1,if_true,er,implFrom_eq,Option.bind_some,decide_eq_true_eq,hww,succ64 hi (by omega)]
   exact Ev.pos g1 (Ev.bind (Xbt _ _ _) (Ev.pos g2 (Ev.pos g3 (Ev.bind ((when_eq x x.f3 tm w d t c o q s).val g4) (Ev.pos rfl (Ev.bind ((when_eq x x.f4 tm w d t c o q s).val g5) (Ev.pos rfl g)))))))
  ·rw[each_mem]
   exact⟨fun a=>⟨h1,by omega,h3,h4,⟨a.1,by omega,a.2.2⟩,a.2.1⟩,fun a=>⟨a.2.2.2.2.1.1,a.2.2.2.2.2,a.2.2.2.2.1.2.2⟩⟩
def smC (c:List mC):Prop:=∀ x ∈ c,x.f5.f1.length≤1048576
theorem replay_both (w:List mW) (d:List mD) (t:List mT) (tm:Int) (c:List mC) (o q:List Int) (s:Int) (h:smM w d t c o q) (hc:smC c) :
  ∃ r:List Int × Int × Bool,r.1.length≤1048576∧Ev (fun k=>Xv.f k w d t tm c o q s) r∧Ev (fun k=>Xah.f k w d t tm c o q s) r:=by
 have h1:=XbA w d t tm c o q s h
 have h2:=XbB w d t tm c o q s h
 obtain⟨s1,s2,s3,s4,s5,s6,s7,s8⟩:=h
 simp only[Xv.f,Xah.f,specCopy_ev q s s8,implCopy_ev q s s8,Option.bind_some]
 by_cases hp:machP w d t tm c o q s
 ·have ord:=hp.2.2.2.2.1.2.2.1
  have key:∀ (n i:Nat) (b:Bool) (l:List Int) (z:Int),i+n=o.length→l.length≤1048576→∃ r:List Int × Int × Bool,r.1.length≤1048576∧Ev (fun k=>Xv.l0 k b (i:Int) w d t tm c o q s l z) r∧Ev (fun k=>Xah.l0 k b o (o.length:Int) (i:Int) w d t tm c o q s l z) r:=by
   intro n
   induction n with
   | zero =>
    intro i b l z hi hl
    obtain rfl:i=o.length:=by omega
    refine⟨(l,z,b),hl,Ev.shift ?_,Ev.shift ?_⟩
    ·simp only[Xv.l0,Int.lt_irrefl,if_false];exact Ev.now _
    ·simp only[Xah.l0,Int.lt_irrefl,if_false];exact Ev.now _
   | succ n ih =>
    intro i b l z hi hl
    have hil:i<o.length:=by omega
    have c0:(0:Int)≤(i:Int):=by omega
    have c1:(i:Int)<(o.length:Int):=by omega
    obtain⟨g1,g2⟩:=(ord i hil).1
    have g3:rd o (i:Int)<(c.length:Int):=by omega
    obtain⟨j,hj⟩:∃ j:Nat,rd o (i:Int)=(j:Int):=⟨(rd o (i:Int)).toNat,by omega⟩
    have hjl:j<c.length:=by omega
    have er:rd_T73 c (rd o (i:Int))=c[j]:=by rw[hj];exact getD_get (List.getElem?_eq_getElem hjl)
    have hs:=hc _ (List.getElem_mem hjl)
    obtain⟨y,y0,y1,y2⟩:=after_both l z c[j].f1.f0 c[j].f1.f1 c[j].f1.f2 c[j].f5.f0 c[j].f5.f1 hl hs
    obtain⟨a,a1,a2,_⟩:=allowed_both l z c[j].f1.f0 c[j].f1.f1 c[j].f1.f2 c[j].f5.f0 c[j].f5.f1 hl hs
    cases b with
    | true =>
     obtain⟨r,r0,r1,r2⟩:=ih (i+1) a y.1 y.2 (by omega) (by omega)
     refine⟨r,r0,Ev.shift ?_,Ev.shift ?_⟩
     ·simp only[Xv.l0,c0,c1,g1,g3,if_true,er,succ64 hil (by omega)]
      exact Ev.bind a1 (Ev.bind y1 r1)
     ·simp only[Xah.l0,c0,c1,g1,g3,if_true,er,succ64 hil (by omega)]
      exact Ev.bind a2 (Ev.bind y2 r2)
    | false =>
     obtain⟨r,r0,r1,r2⟩:=ih (i+1) false y.1 y.2 (by omega) (by omega)
     refine⟨r,r0,Ev.shift ?_,Ev.shift ?_⟩
     ·simp only[Xv.l0,c0,c1,g1,g3,if_true,er,succ64 hil (by omega),Bool.false_eq_true,if_false]
      exact Ev.bind y1 r1
     ·simp only[Xah.l0,c0,c1,g1,g3,if_true,er,succ64 hil (by omega),Bool.false_eq_true,if_false]
      exact Ev.bind y2 r2
  obtain⟨r,r0,r1,r2⟩:=key o.length 0 true q s (by omega) s8
  exact⟨r,r0,Ev.bind (h1.val hp) (Ev.pos rfl r1),Ev.bind (h2.val hp) (Ev.pos rfl r2)⟩
 ·exact⟨([],0,false),Nat.zero_le _,Ev.bind (h1.nval hp) (Ev.neg (by decide) (Ev.now _)),Ev.bind (h2.nval hp) (Ev.neg (by decide) (Ev.now _))⟩
end Go.Proofs.YtmljebgideecjaaGreat.P2
