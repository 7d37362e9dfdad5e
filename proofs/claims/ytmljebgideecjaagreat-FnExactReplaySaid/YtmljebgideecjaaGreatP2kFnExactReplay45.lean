/- A part of the proof of the law FnExactReplay: texts of this seat, merged (words, printed functions of the program, plain lemmas). Conditions: none of its own. -/
import Derived.Test.YtmljebgideecjaaGreatP2kFnExactReplay43
import Derived.Test.YtmljebgideecjaaGreatP2kFnExactReplay44
set_option linter.unusedSimpArgs false
set_option linter.unusedVariables false
set_option maxHeartbeats 8000000
set_option maxRecDepth 100000
namespace Go.Proofs.YtmljebgideecjaaGreat.P2
open Go.RowKit Go.Proofs.YtmljebgideecjaaGreatW.PrintWords Go.Proofs.YtmljebgideecjaaGreatW.PrintLast Go.Proofs.YtmljebgideecjaaGreatZ
def PureFnExactReplay:Prop:=∀ (x0:S32),wf32 x0→∃ k,Xk.f k x0.f0.f0 x0.f0.f1 x0.f1 x0.f2 x0.f3 x0.f4 x0.f5.f0 x0.f5.f1=some true
def smM (w:List mW) (d:List mD) (t:List mT) (c:List mC) (o q:List Int):Prop :=
 w.length≤1048576∧d.length≤1048576∧smD d∧t.length≤1048576∧(∀ x ∈ t,smT x)∧c.length≤1048576∧o.length≤1048576∧q.length≤1048576
def machP (w:List mW) (d:List mD) (t:List mT) (tm:Int) (c:List mC) (o q:List Int) (s:Int):Prop :=
 memP w d∧d.length=t.length∧(0≤tm∧tm≤100000)∧okB q 0 s=true∧((∀ x ∈ c,callP t.length tm x)∧c.length≤40∧ordersP c o)∧∀ (i:Nat) x,t[i]? = some x→thrP t.length x∧tcP (i:Int) x c
theorem XbL (w:List mW) (d:List mD) (t:List mT) (tm:Int) (c:List mC) (o q:List Int) (s:Int) (h:smM w d t c o q):EvB (fun k=>Xh.f k w d t tm c o q s) (machP w d t tm c o q s):=by
 obtain⟨s1,s2,s3,s4,s5,s6,s7,s8⟩:=h
 have bad:Ev (fun k=>Xh.j0 k true w d t tm c o q s) false:=Ev.shift (by simp only[Xh.j0,if_true];exact Ev.now _)
 simp only[Xh.f,specIn_eq,Option.bind_some,decide_eq_true_eq]
 refine EvB.bind (Xb0 w d s1 s2 s3) (fun h1=>EvB.pos rfl ?_) (fun h1=>EvB.neg (by decide) (EvB.no bad (fun p=>h1 p.1)))
 refine EvB.ite (fun h2=>EvB.ite (fun h3 => ?_) (fun h3=>EvB.no bad (fun p=>h3 p.2.2.1))) (fun h2=>EvB.no bad (fun p=>h2 (by rw[p.2.1])))
 refine EvB.at (Xbz q s s8) ?_
 refine EvB.ite (fun h4 => ?_) (fun h4=>EvB.no bad (fun p=>h4 p.2.2.2.1))
 refine EvB.bind (XbQ w d t tm c o q s s4 s6 s7) (fun h5 => ?_) (fun h5=>EvB.no bad (fun p=>h5 p.2.2.2.2.1))
 refine EvB.shift ?_
 simp only[Bool.not_true,Xh.j0,Bool.false_eq_true,if_false]
 refine(EvB.each t (R:=fun i x=>thrP t.length x∧tcP (i:Int) x c) (Q:=True) (g:=fun i k=>Xh.l0 k (i:Int) w d t tm c o q s) (fun _ => ?_) (fun i x hx hi hp hn => ?_) (fun i x hx hi hp hr r g => ?_)).iff ⟨fun a=>⟨h1,by omega,h3,h4,h5,a.1⟩,fun a=>⟨a.2.2.2.2.2,trivial⟩⟩
 ·refine EvB.yes (Ev.shift ?_) trivial
  simp only[Xh.l0,Int.lt_irrefl,if_false]
  exact Ev.now _
 ·have c0:(0:Int)≤(i:Int):=by omega
  have c1:(i:Int)<(t.length:Int):=by omega
  have er:rd_T97 t (i:Int)=x:=getD_get hx
  refine Ev.shift ?_
  simp only[Xh.l0,c0,c1,if_true,er]
  refine EvB.then_ (Xbv t.length x (s5 x (List.mem_of_getElem? hx))) (fun g1=>Ev.pos rfl ?_) (fun g1=>Ev.neg (by decide) (Ev.now _))
  exact Ev.bind ((Xby w d t tm c o q s i x hx g1.1 s6).nval (fun a=>hn ⟨g1,a⟩)) (Ev.neg (by decide) (Ev.now _))
 ·have c0:(0:Int)≤(i:Int):=by omega
  have c1:(i:Int)<(t.length:Int):=by omega
  have er:rd_T97 t (i:Int)=x:=getD_get hx
  refine Ev.shift ?_
  simp only[Xh.l0,c0,c1,if_true,er,succ64 hi (by omega)]
  refine Ev.bind ((Xbv t.length x (s5 x (List.mem_of_getElem? hx))).val hr.1) (Ev.pos rfl ?_)
  exact Ev.bind ((Xby w d t tm c o q s i x hx hr.1.1 s6).val hr.2) (Ev.pos rfl g)
theorem when_eq (x:mC) (a tm:Int) (w:List mW) (d:List mD) (t:List mT) (c:List mC) (o q:List Int) (s:Int):EvB (fun _=>Xai.f x.f0 x.f1.f0 x.f1.f1 x.f1.f2 x.f2 x.f3 x.f4 x.f5.f0 x.f5.f1 a w d t tm c o q s) (a = -1 ∨ (x.f2≤a∧a≤tm)):=by
 simp only[Xai.f,implFrom_eq,Option.bind_some]
 refine EvB.ite (fun h=>EvB.yes (Ev.now _) (.inl h)) (fun h=>EvB.now ?_)
 rw[decide_eq_true_iff]
 exact⟨.inr,fun p=>p.elim (fun b=>absurd b h) id⟩
theorem XbV (w:List mW) (d:List mD) (t:List mT) (tm:Int) (c:List mC) (o q:List Int) (s:Int) (h:smM w d t c o q):EvB (fun k=>Xg.l1 k (t.length:Int) t (t.length:Int) 0 w d t tm c o q s) ((∀ (i:Nat) x,t[i]? = some x→thrP t.length x∧tcP (i:Int) x c)∧ordersP c o):=by
 obtain⟨s1,s2,s3,s4,s5,s6,s7,s8⟩:=h
 refine EvB.each t (R:=fun i x=>thrP t.length x∧tcP (i:Int) x c) (g:=fun i k=>Xg.l1 k (t.length:Int) t (t.length:Int) (i:Int) w d t tm c o q s) (fun _ => ?_) (fun i x hx hi hp hn => ?_) (fun i x hx hi hp hr r g => ?_)
 ·refine EvB.shift ?_
  simp only[Xg.l1,Int.lt_irrefl,if_false]
  exact EvB.bind (XbR w d t tm c o q s s7 s6) (fun a=>EvB.yes (Ev.now _) a) (fun a=>EvB.no (Ev.now _) a)
 ·have c0:(0:Int)≤(i:Int):=by omega
  have c1:(i:Int)<(t.length:Int):=by omega
  have er:rd_T97 t (i:Int)=x:=getD_get hx
  refine Ev.shift ?_
  simp only[Xg.l1,c0,c1,if_true,er]
  refine EvB.then_ (Xbw t.length (by omega) x (s5 x (List.mem_of_getElem? hx))) (fun g1=>Ev.pos rfl ?_) (fun g1=>Ev.neg (by decide) (Ev.now _))
  exact Ev.bind ((XbB w d t tm c o q s i x hx g1.1 s6).nval (fun a=>hn ⟨g1,a⟩)) (Ev.neg (by decide) (Ev.now _))
 ·have c0:(0:Int)≤(i:Int):=by omega
  have c1:(i:Int)<(t.length:Int):=by omega
  have er:rd_T97 t (i:Int)=x:=getD_get hx
  refine Ev.shift ?_
  simp only[Xg.l1,c0,c1,if_true,er,succ64 hi (by omega)]
  refine Ev.bind ((Xbw t.length (by omega) x (s5 x (List.mem_of_getElem? hx))).val hr.1) (Ev.pos rfl ?_)
  exact Ev.bind ((XbB w d t tm c o q s i x hx hr.1.1 s6).val hr.2) (Ev.pos rfl g)
theorem XbM (w:List mW) (d:List mD) (t:List mT) (tm:Int) (c:List mC) (o q:List Int) (s:Int) (h:smM w d t c o q):EvB (fun k=>Xg.f k w d t tm c o q s) (machP w d t tm c o q s):=by
 have h0:=h
 obtain⟨s1,s2,s3,s4,s5,s6,s7,s8⟩:=h
 have hww:wrap64 ((t.length:Int) - 1)=(t.length:Int) - 1:=w64 (by omega) (by omega)
 have bad:Ev (fun k=>Xg.j0 k (t.length:Int) true w d t tm c o q s) false:=Ev.shift (by simp only[Xg.j0,if_true];exact Ev.now _)
 simp only[Xg.f,implFrom_eq,Option.bind_some,decide_eq_true_eq]
 refine EvB.bind (Xb1 w d s1 s2 s3) (fun h1=>EvB.pos rfl ?_) (fun h1=>EvB.neg (by decide) (EvB.no bad (fun p=>h1 p.1)))
 refine EvB.ite (fun h2=>EvB.ite (fun h3 => ?_) (fun h3=>EvB.no bad (fun p=>h3 p.2.2.1))) (fun h2=>EvB.no bad (fun p=>h2 (by rw[p.2.1])))
 refine EvB.ite (fun h6=>EvB.no bad (fun p=>absurd p.2.2.2.2.1.2.1 (by omega))) (fun h6 => ?_)
 refine EvB.at (XbA q s s8) ?_
 cases h4:okB q 0 s
 ·exact EvB.no bad (fun p=>by rw[p.2.2.2.1] at h4;exact Bool.noConfusion h4)
 ·refine EvB.shift ?_
  simp only[Bool.not_true,Xg.j0,Bool.false_eq_true,if_false]
  refine(EvB.each c (R:=fun i x=>callP t.length tm x) (Q:=(∀ (i:Nat) x,t[i]? = some x→thrP t.length x∧tcP (i:Int) x c)∧ordersP c o) (g:=fun i k=>Xg.l0 k (t.length:Int) c (c.length:Int) (i:Int) w d t tm c o q s) (fun _ => ?_) (fun i x hx hi hp hn => ?_) (fun i x hx hi hp hr r g => ?_)).iff ?_
  ·refine EvB.shift ?_
   simp only[Xg.l0,Int.lt_irrefl,if_false]
   exact XbV w d t tm c o q s h0
  ·have c0:(0:Int)≤(i:Int):=by omega
   have c1:(i:Int)<(c.length:Int):=by omega
   have er:rd_T73 c (i:Int)=x:=getD_get hx
   refine Ev.shift ?_
   simp only[Xg.l0,c0,c1,if_true,er,implFrom_eq,Option.bind_some,decide_eq_true_eq,hww]
   by_cases g1:0≤x.f0∧x.f0≤(t.length:Int) - 1
   ·refine Ev.pos g1 (Ev.bind (Xbo _ _ _) ?_)
    by_cases g2:opP x.f1
    ·refine Ev.pos g2 ?_
     by_cases g3:0≤x.f2∧x.f2≤tm
     ·refine Ev.pos g3 (EvB.then_ (when_eq x x.f3 tm w d t c o q s) (fun g4=>Ev.pos rfl ?_) (fun g4=>Ev.neg (by decide) (Ev.now _)))
      exact Ev.bind ((when_eq x x.f4 tm w d t c o q s).nval (fun g5=>hn ⟨g1,g2,g3,g4,g5⟩)) (Ev.neg (by decide) (Ev.now _))
     ·exact Ev.neg g3 (Ev.now _)
    ·exact Ev.neg g2 (Ev.now _)
   ·exact Ev.neg g1 (Ev.now _)
  ·have c0:(0:Int)≤(i:Int):=by omega
   have c1:(i:Int)<(c.length:Int):=by omega
   have er:rd_T73 c (i:Int)=x:=getD_get hx
   obtain⟨g1,g2,g3,g4,g5⟩:=hr
   refine Ev.shift ?_
   simp only[Xg.l0,c0,c1,if_true,er,implFrom_eq,Option.bind_some,decide_eq_true_eq,hww,succ64 hi (by omega)]
   exact Ev.pos g1 (Ev.bind (Xbo _ _ _) (Ev.pos g2 (Ev.pos g3 (Ev.bind ((when_eq x x.f3 tm w d t c o q s).val g4) (Ev.pos rfl (Ev.bind ((when_eq x x.f4 tm w d t c o q s).val g5) (Ev.pos rfl g)))))))
  ·rw[each_mem]
   exact⟨fun a=>⟨h1,by omega,h3,h4,⟨a.1,by omega,a.2.2⟩,a.2.1⟩,fun a=>⟨a.2.2.2.2.1.1,a.2.2.2.2.2,a.2.2.2.2.1.2.2⟩⟩
def smC (c:List mC):Prop:=∀ x ∈ c,x.f5.f1.length≤1048576
theorem replay_both (w:List mW) (d:List mD) (t:List mT) (tm:Int) (c:List mC) (o q:List Int) (s:Int) (h:smM w d t c o q) (hc:smC c) :
  ∃ r:List Int × Int × Bool,r.1.length≤1048576∧Ev (fun k=>Xu.f k w d t tm c o q s) r∧Ev (fun k=>X3.f k w d t tm c o q s) r:=by
 have h1:=XbL w d t tm c o q s h
 have h2:=XbM w d t tm c o q s h
 obtain⟨s1,s2,s3,s4,s5,s6,s7,s8⟩:=h
 simp only[Xu.f,X3.f,specCopy_ev q s s8,implCopy_ev q s s8,Option.bind_some]
 by_cases hp:machP w d t tm c o q s
 ·have ord:=hp.2.2.2.2.1.2.2.1
  have key:∀ (n i:Nat) (b:Bool) (l:List Int) (z:Int),i+n=o.length→l.length≤1048576→∃ r:List Int × Int × Bool,r.1.length≤1048576∧Ev (fun k=>Xu.l0 k b (i:Int) w d t tm c o q s l z) r∧Ev (fun k=>X3.l0 k b o (o.length:Int) (i:Int) w d t tm c o q s l z) r:=by
   intro n
   induction n with
   | zero =>
    intro i b l z hi hl
    obtain rfl:i=o.length:=by omega
    refine⟨(l,z,b),hl,Ev.shift ?_,Ev.shift ?_⟩
    ·simp only[Xu.l0,Int.lt_irrefl,if_false];exact Ev.now _
    ·simp only[X3.l0,Int.lt_irrefl,if_false];exact Ev.now _
   | succ n ih =>
    intro i b l z hi hl
    have hil:i<o.length:=by omega
    have c0:(0:Int)≤(i:Int):=by omega
    have c1:(i:Int)<(o.length:Int):=by omega
    obtain⟨g1,g2⟩:=(ord i hil).1
    have g3:rd o (i:Int)<(c.length:Int):=by omega
    obtain⟨j,hj⟩:∃ j:Nat,rd o (i:Int)=(j:Int):=⟨(rd o (i:Int)).toNat,by omega⟩
    have hjl:j<c.length:=by omega
    have er:rd_T73 c (rd o (i:Int))=c[j]:=by rw[hj];exact getD_get (List.getElem?_eq_getElem hjl)
    have hs:=hc _ (List.getElem_mem hjl)
    obtain⟨y,y0,y1,y2⟩:=after_both l z c[j].f1.f0 c[j].f1.f1 c[j].f1.f2 c[j].f5.f0 c[j].f5.f1 hl hs
    obtain⟨a,a1,a2,_⟩:=allowed_both l z c[j].f1.f0 c[j].f1.f1 c[j].f1.f2 c[j].f5.f0 c[j].f5.f1 hl hs
    cases b with
    | true =>
     obtain⟨r,r0,r1,r2⟩:=ih (i+1) a y.1 y.2 (by omega) (by omega)
     refine⟨r,r0,Ev.shift ?_,Ev.shift ?_⟩
     ·simp only[Xu.l0,c0,c1,g1,g3,if_true,er,succ64 hil (by omega)]
      exact Ev.bind a1 (Ev.bind y1 r1)
     ·simp only[X3.l0,c0,c1,g1,g3,if_true,er,succ64 hil (by omega)]
      exact Ev.bind a2 (Ev.bind y2 r2)
    | false =>
     obtain⟨r,r0,r1,r2⟩:=ih (i+1) false y.1 y.2 (by omega) (by omega)
     refine⟨r,r0,Ev.shift ?_,Ev.shift ?_⟩
     ·simp only[Xu.l0,c0,c1,g1,g3,if_true,er,succ64 hil (by omega),Bool.false_eq_true,if_false]
      exact Ev.bind y1 r1
     ·simp only[X3.l0,c0,c1,g1,g3,if_true,er,succ64 hil (by omega),Bool.false_eq_true,if_false]
      exact Ev.bind y2 r2
  obtain⟨r,r0,r1,r2⟩:=key o.length 0 true q s (by omega) s8
  exact⟨r,r0,Ev.bind (h1.val hp) (Ev.pos rfl r1),Ev.bind (h2.val hp) (Ev.pos rfl r2)⟩
 ·exact⟨([],0,false),Nat.zero_le _,Ev.bind (h1.nval hp) (Ev.neg (by decide) (Ev.now _)),Ev.bind (h2.nval hp) (Ev.neg (by decide) (Ev.now _))⟩
theorem ctl_const' {τ:Type} (c:Int):∀ l:List τ,ctl (fun _=>c) l=c * l.length
 | []=>by simp[ctl]
 | x :: xs=>by simp only[ctl,ctl_const' c xs,List.length_cons];rw[Int.natCast_add,Int.mul_add];omega
def mkW (_:S140) (m:Int):S140:=⟨m,m+1,m+2⟩
theorem markWordS_ev' (l:List S140) (m:Int) (h0:0≤m) (hm:m+3 * l.length≤9223372036854775800):Ev (fun k=>Xam.f k l m) (m+3 * l.length,mkl (fun _=>3) mkW l m):=by
 have h:=mark_ev (fun _=>3) mkW (fun _=>by decide) 9223372036854775800 (g:=fun k l m i=>Xam.l0 k l m i) l.length ?_ ?_ l m rfl h0 (by rw[ctl_const'];omega)
 ·rw[ctl_const'] at h
  simp only[Xam.f]
  exact h
 ·intro s t hs
  refine Ev.shift ?_
  simp only[Xam.l0,Int.lt_irrefl,if_false]
  exact Ev.now _
 ·intro s t i x r hs hx hi h2 h3 h
  refine Ev.shift ?_
  have d1:(i:Int)<(s.length:Int):=by omega
  have d2:(0:Int)≤(i:Int):=by omega
  have e1:wrap64 (t+1)=t+1:=by rw[w64 (by omega) (by omega)]
  have e2:wrap64 (t+1+1)=t+2:=by rw[w64 (by omega) (by omega)];omega
  have e3:wrap64 (t+2+1)=t+3:=by rw[w64 (by omega) (by omega)];omega
  simp only[Xam.l0,d1,d2,if_true,Int.toNat_natCast,succ64 hi (by omega),e1,e2,e3]
  exact h
def mkE (_:S165) (m:Int):S165:=⟨m,m+1,m+2⟩
theorem markEntryS_ev' (l:List S165) (m:Int) (h0:0≤m) (hm:m+3 * l.length≤9223372036854775800):Ev (fun k=>Xal.f k l m) (m+3 * l.length,mkl (fun _=>3) mkE l m):=by
 have h:=mark_ev (fun _=>3) mkE (fun _=>by decide) 9223372036854775800 (g:=fun k l m i=>Xal.l0 k l m i) l.length ?_ ?_ l m rfl h0 (by rw[ctl_const'];omega)
 ·rw[ctl_const'] at h
  simp only[Xal.f]
  exact h
 ·intro s t hs
  refine Ev.shift ?_
  simp only[Xal.l0,Int.lt_irrefl,if_false]
  exact Ev.now _
 ·intro s t i x r hs hx hi h2 h3 h
  refine Ev.shift ?_
  have d1:(i:Int)<(s.length:Int):=by omega
  have d2:(0:Int)≤(i:Int):=by omega
  have e1:wrap64 (t+1)=t+1:=by rw[w64 (by omega) (by omega)]
  have e2:wrap64 (t+1+1)=t+2:=by rw[w64 (by omega) (by omega)];omega
  have e3:wrap64 (t+2+1)=t+3:=by rw[w64 (by omega) (by omega)];omega
  simp only[Xal.l0,d1,d2,if_true,Int.toNat_natCast,succ64 hi (by omega),e1,e2,e3]
  exact h
def mkOp (_:S69) (m:Int):S69:=⟨m,m+1,m+2⟩
theorem markOpS_ev' (l:List S69) (m:Int) (h0:0≤m) (hm:m+3 * l.length≤9223372036854775800):Ev (fun k=>Xax.f k l m) (m+3 * l.length,mkl (fun _=>3) mkOp l m):=by
 have h:=mark_ev (fun _=>3) mkOp (fun _=>by decide) 9223372036854775800 (g:=fun k l m i=>Xax.l0 k l m i) l.length ?_ ?_ l m rfl h0 (by rw[ctl_const'];omega)
 ·rw[ctl_const'] at h
  simp only[Xax.f]
  exact h
 ·intro s t hs
  refine Ev.shift ?_
  simp only[Xax.l0,Int.lt_irrefl,if_false]
  exact Ev.now _
 ·intro s t i x r hs hx hi h2 h3 h
  refine Ev.shift ?_
  have d1:(i:Int)<(s.length:Int):=by omega
  have d2:(0:Int)≤(i:Int):=by omega
  have e1:wrap64 (t+1)=t+1:=by rw[w64 (by omega) (by omega)]
  have e2:wrap64 (t+1+1)=t+2:=by rw[w64 (by omega) (by omega)];omega
  have e3:wrap64 (t+2+1)=t+3:=by rw[w64 (by omega) (by omega)];omega
  simp only[Xax.l0,d1,d2,if_true,Int.toNat_natCast,succ64 hi (by omega),e1,e2,e3]
  exact h
def mkP (_:S172) (m:Int):S172:=⟨m,m+1⟩
theorem markPairS_ev' (l:List S172) (m:Int) (h0:0≤m) (hm:m+2 * l.length≤9223372036854775800):Ev (fun k=>Xan.f k l m) (m+2 * l.length,mkl (fun _=>2) mkP l m):=by
 have h:=mark_ev (fun _=>2) mkP (fun _=>by decide) 9223372036854775800 (g:=fun k l m i=>Xan.l0 k l m i) l.length ?_ ?_ l m rfl h0 (by rw[ctl_const'];omega)
 ·rw[ctl_const'] at h
  simp only[Xan.f]
  exact h
 ·intro s t hs
  refine Ev.shift ?_
  simp only[Xan.l0,Int.lt_irrefl,if_false]
  exact Ev.now _
 ·intro s t i x r hs hx hi h2 h3 h
  refine Ev.shift ?_
  have d1:(i:Int)<(s.length:Int):=by omega
  have d2:(0:Int)≤(i:Int):=by omega
  have e1:wrap64 (t+1)=t+1:=by rw[w64 (by omega) (by omega)]
  have e2:wrap64 (t+1+1)=t+2:=by rw[w64 (by omega) (by omega)];omega
  simp only[Xan.l0,d1,d2,if_true,Int.toNat_natCast,succ64 hi (by omega),e1,e2]
  exact h
def mkH (_:S174) (m:Int):S174:=⟨m,m+1,m+2,m+3⟩
theorem markHelpS_ev' (l:List S174) (m:Int) (h0:0≤m) (hm:m+4 * l.length≤9223372036854775800):Ev (fun k=>Xao.f k l m) (m+4 * l.length,mkl (fun _=>4) mkH l m):=by
 have h:=mark_ev (fun _=>4) mkH (fun _=>by decide) 9223372036854775800 (g:=fun k l m i=>Xao.l0 k l m i) l.length ?_ ?_ l m rfl h0 (by rw[ctl_const'];omega)
 ·rw[ctl_const'] at h
  simp only[Xao.f]
  exact h
 ·intro s t hs
  refine Ev.shift ?_
  simp only[Xao.l0,Int.lt_irrefl,if_false]
  exact Ev.now _
 ·intro s t i x r hs hx hi h2 h3 h
  refine Ev.shift ?_
  have d1:(i:Int)<(s.length:Int):=by omega
  have d2:(0:Int)≤(i:Int):=by omega
  have e1:wrap64 (t+1)=t+1:=by rw[w64 (by omega) (by omega)]
  have e2:wrap64 (t+1+1)=t+2:=by rw[w64 (by omega) (by omega)];omega
  have e3:wrap64 (t+2+1)=t+3:=by rw[w64 (by omega) (by omega)];omega
  have e4:wrap64 (t+3+1)=t+4:=by rw[w64 (by omega) (by omega)];omega
  simp only[Xao.l0,d1,d2,if_true,Int.toNat_natCast,succ64 hi (by omega),e1,e2,e3,e4]
  exact h
def mkInt (_:Int) (m:Int):Int:=m
theorem markIntS_ev' (l:List Int) (m:Int) (h0:0≤m) (hm:m+l.length≤9223372036854775800):Ev (fun k=>XX.f k l m) (m+l.length,mkl (fun _=>1) mkInt l m):=by
 have h:=mark_ev (fun _=>1) mkInt (fun _=>by decide) 9223372036854775800 (g:=fun k l m i=>XX.l0 k l m i) l.length ?_ ?_ l m rfl h0 (by rw[ctl_const'];omega)
 ·rw[ctl_const',Int.one_mul] at h
  simp only[XX.f]
  exact h
 ·intro s t hs
  refine Ev.shift ?_
  simp only[XX.l0,Int.lt_irrefl,if_false]
  exact Ev.now _
 ·intro s t i x r hs hx hi h2 h3 h
  refine Ev.shift ?_
  have d1:(i:Int)<(s.length:Int):=by omega
  have d2:(0:Int)≤(i:Int):=by omega
  have e1:wrap64 (t+1)=t+1:=by rw[w64 (by omega) (by omega)]
  simp only[XX.l0,d1,d2,if_true,Option.bind_some,Int.toNat_natCast,succ64 hi (by omega),e1]
  exact h
def ctD (x:S162):Int:=3+3 * x.f2.length+x.f3.f1.length
def mkD (x:S162) (m:Int):S162:=⟨m,m+1,mkl (fun _=>3) mkE x.f2 (m+2),⟨m+2+3 * x.f2.length,mkl (fun _=>1) mkInt x.f3.f1 (m+3+3 * x.f2.length)⟩⟩
theorem markDescS_ev' (l:List S162) (m:Int) (h0:0≤m) (hl:l.length≤1048576) (hm:m+ctl ctD l≤9223372036854775800):Ev (fun k=>Xap.f k l m) (m+ctl ctD l,mkl ctD mkD l m):=by
 have h:=mark_ev ctD mkD (fun _=>by simp only[ctD];omega) 9223372036854775800 (g:=fun k l m i=>Xap.l0 k l m i) l.length ?_ ?_ l m rfl h0 hm
 ·simp only[Xap.f]
  exact h
 ·intro s t hs
  refine Ev.shift ?_
  simp only[Xap.l0,Int.lt_irrefl,if_false]
  exact Ev.now _
 ·intro s t i x r hs hx hi h2 h3 h
  refine Ev.shift ?_
  simp only[ctD,mkD] at h3 h
  have d1:(i:Int)<(s.length:Int):=by omega
  have d2:(0:Int)≤(i:Int):=by omega
  have d3:rd_T162 s (i:Int)=x:=getD_get hx
  have e1:wrap64 (t+1)=t+1:=by rw[w64 (by omega) (by omega)]
  have e2:wrap64 (t+1+1)=t+2:=by rw[w64 (by omega) (by omega)];omega
  have e3:wrap64 (t+2+3 * (x.f2.length:Int)+1)=t+3+3 * (x.f2.length:Int):=by rw[w64 (by omega) (by omega)];omega
  have e4:t+3+3 * (x.f2.length:Int)+(x.f3.f1.length:Int)=t+(3+3 * (x.f2.length:Int)+(x.f3.f1.length:Int)):=by omega
  simp only[Xap.l0,d1,d2,d3,if_true,Int.toNat_natCast,succ64 hi (by omega),e1,e2]
  refine Ev.bind (markEntryS_ev' x.f2 (t+2) (by omega) (by omega)) ?_
  simp only[e3]
  refine Ev.bind (markIntS_ev' x.f3.f1 (t+3+3 * (x.f2.length:Int)) (by omega) (by omega)) ?_
  simp only[e4]
  exact h
def ctT (x:S97):Int:=3 * x.f0.length+2+2 * x.f3.length+4 * x.f4.length
def mkT (x:S97) (m:Int):S97:=⟨mkl (fun _=>3) mkOp x.f0 m,m+3 * x.f0.length,decide (Int.tmod (m+3 * x.f0.length+1) 3=0),mkl (fun _=>2) mkP x.f3 (m+3 * x.f0.length+2),mkl (fun _=>4) mkH x.f4 (m+3 * x.f0.length+2+2 * x.f3.length)⟩
theorem markThreadS_ev' (l:List S97) (m:Int) (h0:0≤m) (hl:l.length≤1048576) (hm:m+ctl ctT l≤9223372036854775800):Ev (fun k=>Xag.f k l m) (m+ctl ctT l,mkl ctT mkT l m):=by
 have h:=mark_ev ctT mkT (fun _=>by simp only[ctT];omega) 9223372036854775800 (g:=fun k l m i=>Xag.l0 k l m i) l.length ?_ ?_ l m rfl h0 hm
 ·simp only[Xag.f]
  exact h
 ·intro s t hs
  refine Ev.shift ?_
  simp only[Xag.l0,Int.lt_irrefl,if_false]
  exact Ev.now _
 ·intro s t i x r hs hx hi h2 h3 h
  refine Ev.shift ?_
  simp only[ctT,mkT] at h3 h
  have d1:(i:Int)<(s.length:Int):=by omega
  have d2:(0:Int)≤(i:Int):=by omega
  have d3:rd_T97 s (i:Int)=x:=getD_get hx
  have e1:wrap64 (t+3 * (x.f0.length:Int)+1)=t+3 * (x.f0.length:Int)+1:=by rw[w64 (by omega) (by omega)]
  have e2:wrap64 (t+3 * (x.f0.length:Int)+1+1)=t+3 * (x.f0.length:Int)+2:=by rw[w64 (by omega) (by omega)];omega
  have e4:t+3 * (x.f0.length:Int)+2+2 * (x.f3.length:Int)+4 * (x.f4.length:Int)=t+(3 * (x.f0.length:Int)+2+2 * (x.f3.length:Int)+4 * (x.f4.length:Int)):=by omega
  simp only[Xag.l0,d1,d2,d3,if_true,Int.toNat_natCast,succ64 hi (by omega)]
  refine Ev.bind (markOpS_ev' x.f0 t (by omega) (by omega)) ?_
  simp only[e1,e2]
  refine Ev.bind (markPairS_ev' x.f3 (t+3 * (x.f0.length:Int)+2) (by omega) (by omega)) ?_
  refine Ev.bind (markHelpS_ev' x.f4 (t+3 * (x.f0.length:Int)+2+2 * (x.f3.length:Int)) (by omega) (by omega)) ?_
  simp only[e4]
  exact h
def ctC (x:S73):Int:=8+(x.f5.f1.length:Int)
def mkC (x:S73) (m:Int):S73:=⟨m,⟨m+1,m+2,m+3⟩,m+4,m+5,m+6,⟨m+7,mkl (fun _=>1) mkInt x.f5.f1 (m+8)⟩⟩
theorem markCallS_ev' (l:List S73) (m:Int) (h0:0≤m) (hl:l.length≤1048576) (hm:m+ctl ctC l≤9223372036854775800):Ev (fun k=>Xaq.f k l m) (m+ctl ctC l,mkl ctC mkC l m):=by
 have h:=mark_ev ctC mkC (fun _=>by simp only[ctC];omega) 9223372036854775800 (g:=fun k l m i=>Xaq.l0 k l m i) l.length ?_ ?_ l m rfl h0 hm
 ·simp only[Xaq.f]
  exact h
 ·intro s t hs
  refine Ev.shift ?_
  simp only[Xaq.l0,Int.lt_irrefl,if_false]
  exact Ev.now _
 ·intro s t i x r hs hx hi h2 h3 h
  refine Ev.shift ?_
  simp only[ctC,mkC] at h3 h
  have d1:(i:Int)<(s.length:Int):=by omega
  have d2:(0:Int)≤(i:Int):=by omega
  have d3:rd_T73 s (i:Int)=x:=getD_get hx
  have e1:wrap64 (t+1)=t+1:=by rw[w64 (by omega) (by omega)]
  have e2:wrap64 (t+1+1)=t+2:=by rw[w64 (by omega) (by omega)];omega
  have e3:wrap64 (t+2+1)=t+3:=by rw[w64 (by omega) (by omega)];omega
  have e4:wrap64 (t+3+1)=t+4:=by rw[w64 (by omega) (by omega)];omega
  have e5:wrap64 (t+4+1)=t+5:=by rw[w64 (by omega) (by omega)];omega
  have e6:wrap64 (t+5+1)=t+6:=by rw[w64 (by omega) (by omega)];omega
  have e7:wrap64 (t+6+1)=t+7:=by rw[w64 (by omega) (by omega)];omega
  have e8:wrap64 (t+7+1)=t+8:=by rw[w64 (by omega) (by omega)];omega
  have e9:t+8+(x.f5.f1.length:Int)=t+(8+(x.f5.f1.length:Int)):=by omega
  simp only[Xaq.l0,d1,d2,d3,if_true,Int.toNat_natCast,succ64 hi (by omega),e1,e2,e3,e4,e5,e6,e7,e8]
  refine Ev.bind (markIntS_ev' x.f5.f1 (t+8) (by omega) (by omega)) ?_
  simp only[e9]
  exact h
theorem ctl_le {τ:Type} {ct:τ→Int} {C:Int} : ∀ l:List τ,(∀ x ∈ l,ct x≤C)→ctl ct l≤C * l.length
 | [],_=>by simp[ctl]
 | x :: xs,h=>by
  have h1:=h x (List.mem_cons_self ..)
  have h2:=ctl_le xs (fun y hy=>h y (List.mem_cons_of_mem _ hy))
  simp only[ctl,List.length_cons,Int.natCast_add,Int.mul_add]
  omega
theorem markMachine_ev (w:List S140) (d:List S162) (t:List S97) (tm:Int) (c:List S73) (o q:List Int) (s:Int) (hw:w.length≤1048576) (hd:d.length≤1048576) (hd2:∀ x ∈ d,x.f2.length≤1048576∧x.f3.f1.length≤1048576) (ht:t.length≤1048576) (ht2:∀ x ∈ t,x.f0.length≤1048576∧x.f3.length≤1048576∧x.f4.length≤1048576) (hc:c.length≤1048576) (hc2:∀ x ∈ c,x.f5.f1.length≤1048576) (ho:o.length≤1048576) (hq:q.length≤1048576) :
  ∃ r,0≤r∧Ev (fun k=>Xat.f k w d t tm c o q s 1) r:=by
 have b1:=ctl_le (ct:=ctD) (C:=5000000) d (fun x hx=>by have:=hd2 x hx;simp only[ctD];omega)
 have b2:=ctl_le (ct:=ctT) (C:=10000000) t (fun x hx=>by have:=ht2 x hx;simp only[ctT];omega)
 have b3:=ctl_le (ct:=ctC) (C:=5000000) c (fun x hx=>by have:=hc2 x hx;simp only[ctC];omega)
 have n1:=ctl_nonneg (ct:=ctD) (fun x=>by simp only[ctD];omega) d
 have n2:=ctl_nonneg (ct:=ctT) (fun x=>by simp only[ctT];omega) t
 have n3:=ctl_nonneg (ct:=ctC) (fun x=>by simp only[ctC];omega) c
 refine⟨1+3 * w.length+ctl ctD d+ctl ctT t+ctl ctC c+o.length+q.length,by omega,?_⟩
 simp only[Xat.f,Xat.g,Xbn.f,XaG.f,Option.bind_assoc]
 refine Ev.bind (markWordS_ev' w 1 (by decide) (by omega)) (Ev.bind (markDescS_ev' d _ (by omega) hd (by omega)) ?_)
 simp only[Option.bind_some]
 refine Ev.bind (markThreadS_ev' t _ (by omega) ht (by omega)) (Ev.bind (markCallS_ev' c _ (by omega) hc (by omega)) (Ev.bind (markIntS_ev' o _ (by omega) (by omega)) (Ev.bind (markIntS_ev' q _ (by omega) (by omega)) ?_)))
 simp only[Option.bind_some]
 exact Ev.now _
end Go.Proofs.YtmljebgideecjaaGreat.P2
