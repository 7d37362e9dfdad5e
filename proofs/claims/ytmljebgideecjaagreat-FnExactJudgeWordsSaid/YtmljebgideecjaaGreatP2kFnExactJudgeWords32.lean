/- A part of the proof of the law FnExactJudgeWords: texts of this seat, merged (words, printed functions of the program, plain lemmas). Conditions: none of its own. -/
import Derived.Test.YtmljebgideecjaaGreatP2kFnExactJudgeWords24
import Derived.Test.YtmljebgideecjaaGreatP2kFnExactJudgeWords25
import Derived.Test.YtmljebgideecjaaGreatP2kFnExactJudgeWords26
set_option linter.unusedSimpArgs false
set_option linter.unusedVariables false
set_option maxHeartbeats 8000000
set_option maxRecDepth 100000
namespace Go.Proofs.YtmljebgideecjaaGreat.P2
open Go.RowKit Go.Proofs.YtmljebgideecjaaGreatW.PrintWords Go.Proofs.YtmljebgideecjaaGreatW.PrintLast Go.Proofs.YtmljebgideecjaaGreatZ
abbrev lCall:=S119
abbrev iCall:=S73
def cCall (x:lCall):iCall:=⟨x.f0,⟨x.f1.f0,x.f1.f1,x.f1.f2⟩,x.f2,x.f3,x.f4,⟨x.f5.f0,x.f5.f1⟩⟩
def wtCall (x:lCall):Int:=(x.f5.f1.length:Int)
def smCall (x:iCall):Prop:=x.f5.f1.length≤1048576
theorem wtCall_nn (x:lCall):0≤wtCall x:=by unfold wtCall;omega
theorem smCall_of (x:lCall) (h:wtCall x≤1048576):smCall (cCall x):=by
 unfold wtCall at h
 simp only[smCall,cCall,List.length_map]
 omega
theorem szCall_eq (x:lCall) (t:Int) (h0:0≤t) (h1:t≤1048576) (hw:x.f5.f1.length≤9223372036854775807):Xbg.f x.f0 x.f1.f0 x.f1.f1 x.f1.f2 x.f2 x.f3 x.f4 x.f5.f0 x.f5.f1 t=some (lf (wtCall x) t):=by
 unfold wtCall
 simp only[Xbg.f]
 rw[szRes_eq _ _ t h0 h1 hw,Option.bind_some]
 exact lf_last (by omega)
theorem toCall_ev (x:lCall) (h:wtCall x≤1048576):Ev (fun k=>Xbi.f k x.f0 x.f1.f0 x.f1.f1 x.f1.f2 x.f2 x.f3 x.f4 x.f5.f0 x.f5.f1) (x.f0,x.f1.f0,x.f1.f1,x.f1.f2,x.f2,x.f3,x.f4,x.f5.f0,x.f5.f1):=by
 unfold wtCall at h
 simp only[Xbi.f,Xa8.f,Option.bind_some]
 exact Ev.bind (toRes_ev _ _ (by omega)) (Ev.now _)
theorem eqCall_ev (x:iCall) (h:smCall x):Ev (fun k=>XaX.f k x.f0 x.f1.f0 x.f1.f1 x.f1.f2 x.f2 x.f3 x.f4 x.f5.f0 x.f5.f1 x.f0 x.f1.f0 x.f1.f1 x.f1.f2 x.f2 x.f3 x.f4 x.f5.f0 x.f5.f1) true:=by
 unfold smCall at h
 simp only[XaX.f,XaP.f,if_true,Option.bind_some]
 refine Ev.bind (eqRes_ev _ _ (by omega)) ?_
 simp only[if_true]
 exact Ev.now _
theorem szCallS_ev (l:List lCall) (hl:l.length≤9223372036854775807) (hw:∀ x ∈ l,x.f5.f1.length≤9223372036854775807) (t:Int) (h0:0≤t) (h1:t≤1048576):Ev (fun k=>XY.f k l t) (lf (l.length+ctl wtCall l) t):=by
 have hc:=ctl_nonneg wtCall_nn l
 have e:wrap64 (t - (l.length:Int))=t - l.length:=w64 (by omega) (by omega)
 simp only[XY.f,e]
 by_cases h:(l.length:Int)≤t
 ·have c:¬ (t - (l.length:Int)<0):=by omega
  simp only[c,if_false]
  have h:=size_ev l wtCall wtCall_nn 1048576 (g:=fun k t i=>XY.l0 k l t i) ?_ ?_ ?_ (t - l.length) (by omega) (by omega)
  ·refine h.to ?_
   unfold lf
   by_cases h2:ctl wtCall l≤t - l.length
   ·rw[if_pos h2,if_pos (by omega)];omega
   ·rw[if_neg h2,if_neg (by omega)]
  ·intro t
   refine Ev.shift ?_
   simp only[XY.l0,Int.lt_irrefl,if_false]
   exact Ev.now _
  ·intro t i x hx hi h0 h1 hlt
   have hr:rd_T119 l (i:Int)=x:=getD_get hx
   have d1:(i:Int)<(l.length:Int):=by omega
   have d2:(0:Int)≤(i:Int):=by omega
   refine Ev.shift ?_
   simp only[XY.l0,d1,d2,if_true,hr,szCall_eq x t h0 h1 (hw x (List.mem_of_getElem? hx)),lf_neg (show ¬ wtCall x≤t by omega),Option.bind_some,show (-1:Int)<0 by decide]
   exact Ev.now _
  ·intro t i x r hx hi h0 h1 hle h
   have hr:rd_T119 l (i:Int)=x:=getD_get hx
   have d1:(i:Int)<(l.length:Int):=by omega
   have d2:(0:Int)≤(i:Int):=by omega
   have d3:¬ (t - wtCall x<0):=by omega
   refine Ev.shift ?_
   simp only[XY.l0,d1,d2,if_true,hr,szCall_eq x t h0 h1 (hw x (List.mem_of_getElem? hx)),lf_pos hle,Option.bind_some,d3,if_false,succ64 hi hl]
   exact h
 ·have c:t - (l.length:Int)<0:=by omega
  simp only[c,if_true]
  exact Ev.val (lf_neg (by omega)).symm
theorem toCallS_ev (l:List lCall) (hl:l.length≤1048576) (hw:ctl wtCall l≤1048576):Ev (fun k=>Xac.f k l) (l.map cCall):=by
 have c1:(0:Int)≤(l.length:Int):=by omega
 simp only[Xac.f,c1,if_true,Int.toNat_natCast]
 refine Ev.pos (by omega) ?_
 refine fill_ev l cCall z73 (g:=fun k s i=>Xac.l0 k l s i) ?_ ?_
 ·intro s hs
  refine Ev.shift ?_
  simp only[Xac.l0,Int.lt_irrefl,if_false]
  exact Ev.now _
 ·intro s i x r hx hs hi h
  have hr:rd_T119 l (i:Int)=x:=getD_get hx
  have hm:=ctl_mem wtCall_nn (List.mem_of_getElem? hx)
  refine Ev.shift ?_
  have d1:(i:Int)<(l.length:Int):=by omega
  have d2:(0:Int)≤(i:Int):=by omega
  have d3:(i:Int)<(s.length:Int):=by omega
  simp only[Xac.l0,d1,d2,if_true,hr]
  refine Ev.bind (toCall_ev x (by omega)) ?_
  simp only[d3,if_true,Int.toNat_natCast,succ64 hi (by omega)]
  exact h
theorem eqCallS_ev (l:List iCall) (hl:l.length≤9223372036854775807) (hs:∀ x ∈ l,smCall x):Ev (fun k=>XA.f k l l) true:=by
 simp only[XA.f,if_true]
 refine look_ev l true (g:=fun k i=>XA.l0 k l l i) ?_ ?_
 ·refine Ev.shift ?_
  simp only[XA.l0,Int.lt_irrefl,if_false]
  exact Ev.now _
 ·intro i x hx hi h
  have hr:rd_T73 l (i:Int)=x:=getD_get hx
  refine Ev.shift ?_
  have d1:(i:Int)<(l.length:Int):=by omega
  have d2:(0:Int)≤(i:Int):=by omega
  simp only[XA.l0,d1,d2,if_true,hr,succ64 hi hl]
  refine Ev.bind (eqCall_ev x (hs x (List.mem_of_getElem? hx))) ?_
  simp only[if_true]
  exact h
abbrev mW:=S140
abbrev mD:=S162
abbrev mE:=S165
def entL:List mE→Int→Int × Int × Int × Bool
 | [],_=>(0,0,0,false)
 | e :: r,a=>if e.f0=a then (e.f0,e.f1,e.f2,true) else entL r a
def okE (l:List mE):Prop:=∀ e ∈ l,i64in e.f1∧i64in e.f2
theorem entL_in:∀ (l:List mE) (a:Int),okE l→i64in (entL l a).2.1∧i64in (entL l a).2.2.1
 | [],a,_=>by constructor<;>(unfold i64in;show _≤(0:Int)∧(0:Int)<_;omega)
 | e :: r,a,h=>by
  simp only[entL]
  split
  ·exact h e (by simp)
  ·exact entL_in r a (fun x hx=>h x (by simp[hx]))
theorem rdE_at {l:List mE} {i:Nat} (h:i<l.length):rd_T165 l (i:Int)=l[i]:=getD_get (List.getElem?_eq_getElem h)
theorem Xbw (a b:Int) (l:List mE) (c:Int) (q:List Int) (v:Int) (hl:l.length≤9223372036854775807):Ev (fun k=>XH.f k a b l c q v) (entL l v):=by
 simp only[XH.f]
 refine(back (n:=l.length) (Q:=fun i=>Ev (fun k=>XH.l0 k v (i:Int) a b l c q) (entL (l.drop i) v)) ?_ (fun i hi ih => ?_) 0 (Nat.zero_le _))
 ·refine Ev.shift ?_
  simp only[XH.l0,Int.lt_irrefl,if_false,List.drop_length,entL]
  exact Ev.now _
 ·have c0:(0:Int)≤(i:Int):=by omega
  have c1:(i:Int)<(l.length:Int):=by omega
  refine Ev.shift ?_
  rw[List.drop_eq_getElem_cons hi]
  simp only[XH.l0,c0,c1,if_true,rdE_at hi,entL,succ64 hi hl]
  by_cases h:l[i].f0=v
  ·simp only[h,if_true];exact Ev.now _
  ·simp only[h,if_false];exact ih
theorem Xbx (a b:Int) (l:List mE) (c:Int) (q:List Int) (v:Int) (hl:l.length≤9223372036854775807):Ev (fun k=>XU.f k a b l c q v) (entL l v):=by
 simp only[XU.f]
 refine(back (n:=l.length) (Q:=fun i=>Ev (fun k=>XU.l0 k v l (l.length:Int) (i:Int)) (entL (l.drop i) v)) ?_ (fun i hi ih => ?_) 0 (Nat.zero_le _))
 ·refine Ev.shift ?_
  simp only[XU.l0,Int.lt_irrefl,if_false,List.drop_length,entL]
  exact Ev.now _
 ·have c0:(0:Int)≤(i:Int):=by omega
  have c1:(i:Int)<(l.length:Int):=by omega
  refine Ev.shift ?_
  rw[List.drop_eq_getElem_cons hi]
  simp only[XU.l0,c0,c1,if_true,rdE_at hi,entL,succ64 hi hl]
  by_cases h:l[i].f0=v
  ·simp only[h,if_true];exact Ev.now _
  ·simp only[h,if_false];exact ih
def okWs (w:List mW):Prop:=∀ x ∈ w,i64in x.f0
def okDs (d:List mD):Prop:=∀ x ∈ d,x.f2.length≤1048576∧okE x.f2
theorem valueAt_both (w:List mW) (d:List mD) (hw:w.length≤1048576) (hd:d.length≤1048576) (ow:okWs w) (od:okDs d) (i:Nat) (hi:i<w.length) :
  ∃ r:Int,i64in r∧Ev (fun k=>Xa1.f k w d (i:Int)) r∧Ev (fun k=>Xa3.f k w d (i:Int)) r:=by
 have er:rd_T140 w (i:Int)=w[i]:=getD_get (List.getElem?_eq_getElem hi)
 have hww:wrap64 ((w.length:Int) - 1)=w.length - 1:=w64 (by omega) (by omega)
 have c0:(0:Int)≤(i:Int):=by omega
 have c1:(i:Int)<(w.length:Int):=by omega
 have cin:(0:Int)≤(i:Int)∧(i:Int)≤(w.length:Int) - 1:=by omega
 simp only[Xa1.f,Xa3.f,specIn_eq,implFrom_eq,hww,Option.bind_some,cin,and_self,decide_true,c0,c1,if_true,er]
 by_cases h0:w[i].f1=0
 ·simp only[h0,if_true]
  exact⟨_,ow _ (List.getElem_mem hi),Ev.now _,Ev.now _⟩
 ·simp only[h0,if_false]
  by_cases h1:1≤w[i].f1∧w[i].f1≤(d.length:Int)
  ·have e1:wrap64 (w[i].f1 - 1)=w[i].f1 - 1:=w64 (by omega) (by omega)
   have b0:0≤w[i].f1 - 1:=by omega
   have b1:w[i].f1 - 1<(d.length:Int):=by omega
   obtain⟨j,hj⟩:∃ j:Nat,w[i].f1 - 1=(j:Int):=⟨(w[i].f1 - 1).toNat,by omega⟩
   have hjl:j<d.length:=by omega
   have ed:rd_T162 d (j:Int)=d[j]:=getD_get (List.getElem?_eq_getElem hjl)
   obtain⟨l1,l2⟩:=od _ (List.getElem_mem hjl)
   obtain⟨g1,g2⟩:=entL_in d[j].f2 (i:Int) l2
   have c2:(0:Int)≤(j:Int):=by omega
   have c3:(j:Int)<(d.length:Int):=by omega
   have e2:wrap64 (w[i].f1 - 1)=(j:Int):=e1.trans hj
   simp only[h1,and_self,decide_true,if_true,e2,c2,c3,ed]
   refine⟨if d[j].f0=w[i].f2 then (if d[j].f1=2 then (entL d[j].f2 (i:Int)).2.2.1 else (entL d[j].f2 (i:Int)).2.1) else (entL d[j].f2 (i:Int)).2.1,?_,?_,?_⟩
   ·split
    ·split
     ·exact g2
     ·exact g1
    ·exact g1
   ·refine Ev.bind (Xbw _ _ d[j].f2 _ _ _ (by omega)) ?_
    by_cases p:d[j].f0=w[i].f2
    ·by_cases q:d[j].f1=2
     ·simp only[p,q,if_true];exact Ev.now _
     ·simp only[p,q,if_true,if_false];exact Ev.now _
    ·simp only[p,if_false];exact Ev.now _
   ·refine Ev.bind (Xbx _ _ d[j].f2 _ _ _ (by omega)) ?_
    by_cases p:d[j].f0=w[i].f2
    ·by_cases q:d[j].f1=2
     ·simp only[p,q,if_true];exact Ev.now _
     ·simp only[p,q,if_true,if_false];exact Ev.now _
    ·simp only[p,if_false];exact Ev.now _
  ·simp only[h1,decide_false,Bool.false_eq_true,if_false]
   exact⟨0,by unfold i64in;omega,Ev.now _,Ev.now _⟩
theorem meaning_both (w:List mW) (d:List mD) (hw:w.length≤1048576) (hd:d.length≤1048576) (ow:okWs w) (od:okDs d) :
  ∃ m:List Int,m.length=w.length∧(∀ n ∈ m,i64in n)∧Ev (fun k=>X8.f k w d) m∧Ev (fun k=>X9.f k w d) m:=by
 simp only[X8.f,X9.f]
 have key:∀ (n i:Nat) (x:List Int),i+n=w.length→x.length=i→(∀ v ∈ x,i64in v)→∃ m:List Int,m.length=w.length∧(∀ v ∈ m,i64in v)∧Ev (fun k=>X8.l0 k w d x (i:Int)) m∧Ev (fun k=>X9.l0 k w d x (w.length:Int) (i:Int)) m:=by
  intro n
  induction n with
  | zero =>
   intro i x hi hx ho
   have c:¬ ((i:Int)<(w.length:Int)):=by omega
   refine⟨x,by omega,ho,Ev.shift ?_,Ev.shift ?_⟩
   ·simp only[X8.l0,c,if_false];exact Ev.now _
   ·simp only[X9.l0,c,if_false];exact Ev.now _
  | succ n ih =>
   intro i x hi hx ho
   have hil:i<w.length:=by omega
   have c:(i:Int)<(w.length:Int):=by omega
   have c2:x.length<17592186044416:=by omega
   obtain⟨r,hr,h1,h2⟩:=valueAt_both w d hw hd ow od i hil
   obtain⟨m,m1,m2,m3,m4⟩:=ih (i+1) (x ++ [r]) (by omega) (by simp only[List.length_append,List.length_cons,List.length_nil];omega) (fun v hv=>by
    rcases List.mem_append.mp hv with h | h
    ·exact ho v h
    ·rw[List.mem_singleton.mp h];exact hr)
   refine⟨m,m1,m2,Ev.shift ?_,Ev.shift ?_⟩
   ·simp only[X8.l0,c,if_true,succ64 hil (by omega)]
    refine Ev.bind h1 ?_
    simp only[c2,if_true]
    exact m3
   ·simp only[X9.l0,c,if_true,succ64 hil (by omega)]
    refine Ev.bind h2 ?_
    simp only[c2,if_true]
    exact m4
 exact key w.length 0 [] (by omega) rfl (fun v hv=>by cases hv)
end Go.Proofs.YtmljebgideecjaaGreat.P2
