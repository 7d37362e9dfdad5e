/- A part of the proof of the law FnExactJudgeAll: texts of this seat, merged (words, printed functions of the program, plain lemmas). Conditions: none of its own. -/
import Derived.Test.YtmljebgideecjaaGreatP2kFnExactJudgeAll45
set_option linter.unusedSimpArgs false
set_option linter.unusedVariables false
set_option maxHeartbeats 8000000
set_option maxRecDepth 100000
namespace Go.Proofs.YtmljebgideecjaaGreat.P2
open Go.RowKit Go.Proofs.YtmljebgideecjaaGreatW.PrintWords Go.Proofs.YtmljebgideecjaaGreatW.PrintLast Go.Proofs.YtmljebgideecjaaGreatZ
def PureFnExactJudgeAll:Prop:=∀ (x0:S32),wf32 x0→∃ k,Xaw.f k x0.f0.f0 x0.f0.f1 x0.f1 x0.f2 x0.f3 x0.f4 x0.f5.f0 x0.f5.f1=some true
def smC (c:List mC):Prop:=∀ x ∈ c,x.f5.f1.length≤1048576
theorem replay_both (w:List mW) (d:List mD) (t:List mT) (tm:Int) (c:List mC) (o q:List Int) (s:Int) (h:smM w d t c o q) (hc:smC c) :
  ∃ r:List Int × Int × Bool,r.1.length≤1048576∧Ev (fun k=>Xu.f k w d t tm c o q s) r∧Ev (fun k=>X7.f k w d t tm c o q s) r:=by
 have h1:=XbC w d t tm c o q s h
 have h2:=XbD w d t tm c o q s h
 obtain⟨s1,s2,s3,s4,s5,s6,s7,s8⟩:=h
 simp only[Xu.f,X7.f,specCopy_ev q s s8,implCopy_ev q s s8,Option.bind_some]
 by_cases hp:machP w d t tm c o q s
 ·have ord:=hp.2.2.2.2.1.2.2.1
  have key:∀ (n i:Nat) (b:Bool) (l:List Int) (z:Int),i+n=o.length→l.length≤1048576→∃ r:List Int × Int × Bool,r.1.length≤1048576∧Ev (fun k=>Xu.l0 k b (i:Int) w d t tm c o q s l z) r∧Ev (fun k=>X7.l0 k b o (o.length:Int) (i:Int) w d t tm c o q s l z) r:=by
   intro n
   induction n with
   | zero =>
    intro i b l z hi hl
    obtain rfl:i=o.length:=by omega
    refine⟨(l,z,b),hl,Ev.shift ?_,Ev.shift ?_⟩
    ·simp only[Xu.l0,Int.lt_irrefl,if_false];exact Ev.now _
    ·simp only[X7.l0,Int.lt_irrefl,if_false];exact Ev.now _
   | succ n ih =>
    intro i b l z hi hl
    have hil:i<o.length:=by omega
    have c0:(0:Int)≤(i:Int):=by omega
    have c1:(i:Int)<(o.length:Int):=by omega
    obtain⟨g1,g2⟩:=(ord i hil).1
    have g3:rd o (i:Int)<(c.length:Int):=by omega
    obtain⟨j,hj⟩:∃ j:Nat,rd o (i:Int)=(j:Int):=⟨(rd o (i:Int)).toNat,by omega⟩
    have hjl:j<c.length:=by omega
    have er:rd_T73 c (rd o (i:Int))=c[j]:=by rw[hj];exact getD_get (List.getElem?_eq_getElem hjl)
    have hs:=hc _ (List.getElem_mem hjl)
    obtain⟨y,y0,y1,y2⟩:=after_both l z c[j].f1.f0 c[j].f1.f1 c[j].f1.f2 c[j].f5.f0 c[j].f5.f1 hl hs
    obtain⟨a,a1,a2,_⟩:=allowed_both l z c[j].f1.f0 c[j].f1.f1 c[j].f1.f2 c[j].f5.f0 c[j].f5.f1 hl hs
    cases b with
    | true =>
     obtain⟨r,r0,r1,r2⟩:=ih (i+1) a y.1 y.2 (by omega) (by omega)
     refine⟨r,r0,Ev.shift ?_,Ev.shift ?_⟩
     ·simp only[Xu.l0,c0,c1,g1,g3,if_true,er,succ64 hil (by omega)]
      exact Ev.bind a1 (Ev.bind y1 r1)
     ·simp only[X7.l0,c0,c1,g1,g3,if_true,er,succ64 hil (by omega)]
      exact Ev.bind a2 (Ev.bind y2 r2)
    | false =>
     obtain⟨r,r0,r1,r2⟩:=ih (i+1) false y.1 y.2 (by omega) (by omega)
     refine⟨r,r0,Ev.shift ?_,Ev.shift ?_⟩
     ·simp only[Xu.l0,c0,c1,g1,g3,if_true,er,succ64 hil (by omega),Bool.false_eq_true,if_false]
      exact Ev.bind y1 r1
     ·simp only[X7.l0,c0,c1,g1,g3,if_true,er,succ64 hil (by omega),Bool.false_eq_true,if_false]
      exact Ev.bind y2 r2
  obtain⟨r,r0,r1,r2⟩:=key o.length 0 true q s (by omega) s8
  exact⟨r,r0,Ev.bind (h1.val hp) (Ev.pos rfl r1),Ev.bind (h2.val hp) (Ev.pos rfl r2)⟩
 ·exact⟨([],0,false),Nat.zero_le _,Ev.bind (h1.nval hp) (Ev.neg (by decide) (Ev.now _)),Ev.bind (h2.nval hp) (Ev.neg (by decide) (Ev.now _))⟩
def innP (c:List mC) (x:mC) (j:Nat):Prop:=(rdC c (j:Int)).f0=x.f0→0≤(rdC c (j:Int)).f4∧(rdC c (j:Int)).f4<x.f2
def jtP (c:List mC) (i:Nat) (x:mC):Prop:=(x.f4 ≥ 0→0≤x.f3∧x.f3≤x.f4)∧∀ j,j<i→innP c x j
theorem specTimes_in (w:List mW) (d:List mD) (t:List mT) (tm:Int) (c:List mC) (o q:List Int) (s:Int) (i:Nat) (x:mC) (hi:i<c.length) (hc:c.length≤1048576) (r:Bool)
  (h:(∀ j,j<i→innP c x j)→Ev (fun k=>Xi.l0 k ((i+1:Nat):Int) w d t tm c o q s) r) (h':¬ (∀ j,j<i→innP c x j)→r=false) :
  Ev (fun k=>Xi.j1 k (i:Int) false w d t tm c o q s x.f0 x.f1.f0 x.f1.f1 x.f1.f2 x.f2 x.f3 x.f4 x.f5.f0 x.f5.f1) r:=by
 refine Ev.shift ?_
 simp only[Xi.j1,Bool.false_eq_true,if_false]
 refine inner_ev (n:=i) (P:=innP c x) (g:=fun j k=>Xi.l1 k (i:Int) (j:Int) w d t tm c o q s x.f0 x.f1.f0 x.f1.f1 x.f1.f2 x.f2 x.f3 x.f4 x.f5.f0 x.f5.f1) (fun hp => ?_) h' (fun j hj hn => ?_) (fun j hj hp g => ?_)
 ·refine Ev.shift ?_
  simp only[Xi.l1,Int.lt_irrefl,if_false,succ64 hi (by omega)]
  exact h hp
 ·have c0:(0:Int)≤(j:Int):=by omega
  have c1:(j:Int)<(i:Int):=by omega
  have c2:(j:Int)<(c.length:Int):=by omega
  refine Ev.shift ?_
  simp only[Xi.l1,c0,c1,c2,if_true]
  have e1:(rdC c (j:Int)).f0=x.f0:=Classical.byContradiction fun a=>hn fun b=>absurd b a
  refine Ev.pos e1 ?_
  by_cases e2:(rdC c (j:Int)).f4<0
  ·exact Ev.pos e2 (Ev.now _)
  ·refine Ev.neg e2 (Ev.pos ?_ (Ev.now _))
   exact Classical.byContradiction fun a=>hn fun _=>⟨Int.not_lt.mp e2,Int.not_le.mp a⟩
 ·have c0:(0:Int)≤(j:Int):=by omega
  have c1:(j:Int)<(i:Int):=by omega
  have c2:(j:Int)<(c.length:Int):=by omega
  refine Ev.shift ?_
  simp only[Xi.l1,c0,c1,c2,if_true,succ64 hj (by omega)]
  by_cases e1:(rdC c (j:Int)).f0=x.f0
  ·obtain⟨a1,a2⟩:=hp e1
   exact Ev.pos e1 (Ev.neg (Int.not_lt.mpr a1) (Ev.neg (Int.not_le.mpr a2) g))
  ·exact Ev.neg e1 g
theorem implTimes_in (w:List mW) (d:List mD) (t:List mT) (tm:Int) (c:List mC) (o q:List Int) (s:Int) (i:Nat) (x:mC) (hi:i<c.length) (hc:c.length≤1048576) (r:Bool)
  (h:(∀ j,j<i→innP c x j)→Ev (fun k=>Xg.l0 k c (c.length:Int) ((i+1:Nat):Int) w d t tm c o q s) r) (h':¬ (∀ j,j<i→innP c x j)→r=false) :
  Ev (fun k=>Xg.j1 k (i:Int) c (c.length:Int) (i:Int) false w d t tm c o q s x.f0 x.f1.f0 x.f1.f1 x.f1.f2 x.f2 x.f3 x.f4 x.f5.f0 x.f5.f1) r:=by
 have b0:(0:Int)≤(i:Int):=by omega
 have b1:(i:Int)≤(c.length:Int):=by omega
 have hl:(c.take i).length=i:=by rw[List.length_take];omega
 have rt:∀ j:Nat,j<i→rd_T73 (c.take i) (j:Int)=rdC c (j:Int):=fun j hj=>by
  have e1:(c.take i)[j]? = some c[j]:=by rw[List.getElem?_take_of_lt hj];exact List.getElem?_eq_getElem (by omega)
  rw[show rd_T73 (c.take i) (j:Int)=c[j] from getD_get e1,show rdC c (j:Int)=c[j] from getD_get (List.getElem?_eq_getElem (by omega))]
 refine Ev.shift ?_
 simp only[Xg.j1,Bool.false_eq_true,if_false,b0,b1,if_true,Option.bind_some,Int.toNat_natCast,hl]
 refine inner_ev (n:=i) (P:=innP c x) (g:=fun j k=>Xg.l1 k c (c.length:Int) (i:Int) (c.take i) (i:Int) (j:Int) w d t tm c o q s x.f0 x.f1.f0 x.f1.f1 x.f1.f2 x.f2 x.f3 x.f4 x.f5.f0 x.f5.f1) (fun hp => ?_) h' (fun j hj hn => ?_) (fun j hj hp g => ?_)
 ·refine Ev.shift ?_
  simp only[Xg.l1,Int.lt_irrefl,if_false,succ64 hi (by omega)]
  exact h hp
 ·have c0:(0:Int)≤(j:Int):=by omega
  have c1:(j:Int)<(i:Int):=by omega
  refine Ev.shift ?_
  simp only[Xg.l1,c0,c1,hl,if_true,rt j hj,Xbf.f]
  have e1:(rdC c (j:Int)).f0=x.f0:=Classical.byContradiction fun a=>hn fun b=>absurd b a
  refine Ev.pos e1 ?_
  by_cases e2:(rdC c (j:Int)).f4 ≥ 0
  ·have e3:¬ (rdC c (j:Int)).f4<x.f2:=fun a=>hn fun _=>⟨e2,a⟩
   simp only[e2,if_true,e3,decide_false,Option.bind_some,Bool.false_eq_true,if_false]
   exact Ev.now _
  ·simp only[e2,if_false,Option.bind_some,Bool.false_eq_true]
   exact Ev.now _
 ·have c0:(0:Int)≤(j:Int):=by omega
  have c1:(j:Int)<(i:Int):=by omega
  refine Ev.shift ?_
  simp only[Xg.l1,c0,c1,hl,if_true,rt j hj,Xbf.f,succ64 hj (by omega)]
  by_cases e1:(rdC c (j:Int)).f0=x.f0
  ·obtain⟨a1,a2⟩:=hp e1
   have e2:(rdC c (j:Int)).f4 ≥ 0:=a1
   refine Ev.pos e1 ?_
   simp only[e2,if_true,a2,decide_true,Option.bind_some]
   exact g
  ·exact Ev.neg e1 g
theorem times_both (w:List mW) (d:List mD) (t:List mT) (tm:Int) (c:List mC) (o q:List Int) (s:Int) (h:smM w d t c o q) :
  ∃ r:Bool,Ev (fun k=>Xi.f k w d t tm c o q s) r∧Ev (fun k=>Xg.f k w d t tm c o q s) r:=by
 have h1:=XbC w d t tm c o q s h
 have h2:=XbD w d t tm c o q s h
 obtain⟨s1,s2,s3,s4,s5,s6,s7,s8⟩:=h
 simp only[Xi.f,Xg.f]
 by_cases hp:machP w d t tm c o q s
 ·have hcalls:=hp.2.2.2.2.1.1
  have p1:EvB (fun k=>Xi.l0 k 0 w d t tm c o q s) (∀ (i:Nat) x,c[i]? = some x→jtP c i x):=by
   refine(EvB.each c (R:=jtP c) (Q:=True) (g:=fun i k=>Xi.l0 k (i:Int) w d t tm c o q s) (fun _ => ?_) (fun i x hx hi hb hn => ?_) (fun i x hx hi hb hr r g => ?_)).iff (by rw[and_true])
   ·refine EvB.yes (Ev.shift ?_) trivial
    simp only[Xi.l0,Int.lt_irrefl,if_false]
    exact Ev.now _
   ·have c0:(0:Int)≤(i:Int):=by omega
    have c1:(i:Int)<(c.length:Int):=by omega
    have er:rd_T73 c (i:Int)=x:=getD_get hx
    obtain⟨_,_,p3,p4,p5⟩:=hcalls x (List.mem_of_getElem? hx)
    refine Ev.shift ?_
    simp only[Xi.l0,c0,c1,if_true,er,specIn_eq,Option.bind_some]
    by_cases e1:x.f4 ≥ 0
    ·refine Ev.pos e1 ?_
     by_cases e2:x.f2≤x.f3∧x.f3≤x.f4
     ·simp only[e2,and_self,decide_true,Bool.not_true]
      exact specTimes_in w d t tm c o q s i x hi s6 false (fun a=>absurd ⟨fun _=>⟨by omega,e2.2⟩,a⟩ hn) (fun _=>rfl)
     ·simp only[e2,decide_false,Bool.not_false]
      refine Ev.shift ?_
      simp only[Xi.j1,if_true]
      exact Ev.now _
    ·exact Ev.neg e1 (specTimes_in w d t tm c o q s i x hi s6 false (fun a=>absurd ⟨fun b=>absurd b e1,a⟩ hn) (fun _=>rfl))
   ·have c0:(0:Int)≤(i:Int):=by omega
    have c1:(i:Int)<(c.length:Int):=by omega
    have er:rd_T73 c (i:Int)=x:=getD_get hx
    obtain⟨_,_,p3,p4,p5⟩:=hcalls x (List.mem_of_getElem? hx)
    obtain⟨q1,q2⟩:=hr
    have go:=specTimes_in w d t tm c o q s i x hi s6 r (fun _=>g) (fun a=>absurd q2 a)
    refine Ev.shift ?_
    simp only[Xi.l0,c0,c1,if_true,er,specIn_eq,Option.bind_some]
    by_cases e1:x.f4 ≥ 0
    ·have e2:x.f2≤x.f3∧x.f3≤x.f4:=by have:=q1 e1;omega
     refine Ev.pos e1 ?_
     simp only[e2,and_self,decide_true,Bool.not_true]
     exact go
    ·exact Ev.neg e1 go
  have p2:EvB (fun k=>Xg.l0 k c (c.length:Int) 0 w d t tm c o q s) (∀ (i:Nat) x,c[i]? = some x→jtP c i x):=by
   refine(EvB.each c (R:=jtP c) (Q:=True) (g:=fun i k=>Xg.l0 k c (c.length:Int) (i:Int) w d t tm c o q s) (fun _ => ?_) (fun i x hx hi hb hn => ?_) (fun i x hx hi hb hr r g => ?_)).iff (by rw[and_true])
   ·refine EvB.yes (Ev.shift ?_) trivial
    simp only[Xg.l0,Int.lt_irrefl,if_false]
    exact Ev.now _
   ·have c0:(0:Int)≤(i:Int):=by omega
    have c1:(i:Int)<(c.length:Int):=by omega
    have er:rd_T73 c (i:Int)=x:=getD_get hx
    have bad:Ev (fun k=>Xg.j1 k (i:Int) c (c.length:Int) (i:Int) true w d t tm c o q s x.f0 x.f1.f0 x.f1.f1 x.f1.f2 x.f2 x.f3 x.f4 x.f5.f0 x.f5.f1) false:=Ev.shift (by simp only[Xg.j1,if_true];exact Ev.now _)
    refine Ev.shift ?_
    simp only[Xg.l0,c0,c1,if_true,er]
    by_cases e1:x.f4 ≥ 0
    ·refine Ev.pos e1 ?_
     by_cases e2:x.f3<0
     ·exact Ev.pos e2 bad
     ·refine Ev.neg e2 ?_
      by_cases e3:x.f3 > x.f4
      ·simp only[e3,decide_true];exact bad
      ·simp only[e3,decide_false]
       exact implTimes_in w d t tm c o q s i x hi s6 false (fun a=>absurd ⟨fun _=>⟨by omega,by omega⟩,a⟩ hn) (fun _=>rfl)
    ·exact Ev.neg e1 (implTimes_in w d t tm c o q s i x hi s6 false (fun a=>absurd ⟨fun b=>absurd b e1,a⟩ hn) (fun _=>rfl))
   ·have c0:(0:Int)≤(i:Int):=by omega
    have c1:(i:Int)<(c.length:Int):=by omega
    have er:rd_T73 c (i:Int)=x:=getD_get hx
    obtain⟨q1,q2⟩:=hr
    have go:=implTimes_in w d t tm c o q s i x hi s6 r (fun _=>g) (fun a=>absurd q2 a)
    refine Ev.shift ?_
    simp only[Xg.l0,c0,c1,if_true,er]
    by_cases e1:x.f4 ≥ 0
    ·obtain⟨a1,a2⟩:=q1 e1
     have e3:¬ x.f3 > x.f4:=by omega
     refine Ev.pos e1 (Ev.neg (by omega) ?_)
     simp only[e3,decide_false]
     exact go
    ·exact Ev.neg e1 go
  obtain⟨r,r1,r2⟩:=p1.both p2
  exact⟨r,Ev.bind (h1.val hp) (Ev.pos rfl r1),Ev.bind (h2.val hp) (Ev.pos rfl r2)⟩
 ·exact⟨false,Ev.bind (h1.nval hp) (Ev.neg (by decide) (Ev.now _)),Ev.bind (h2.nval hp) (Ev.neg (by decide) (Ev.now _))⟩
end Go.Proofs.YtmljebgideecjaaGreat.P2
