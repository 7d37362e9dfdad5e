/- A part of the proof of the law FnExactMachineNew: texts of this seat, merged (words, printed functions of the program, plain lemmas). Conditions: none of its own. -/
import Derived.Test.YtmljebgideecjaaGreatP2kFnExactMachineNew25
import Derived.Test.YtmljebgideecjaaGreatP2kFnExactMachineNew26
import Derived.Test.YtmljebgideecjaaGreatP2kFnExactMachineNew27
set_option linter.unusedSimpArgs false
set_option linter.unusedVariables false
set_option maxHeartbeats 8000000
set_option maxRecDepth 100000
namespace Go.Proofs.YtmljebgideecjaaGreat.P2
open Go.RowKit Go.Proofs.YtmljebgideecjaaGreatW.PrintWords Go.Proofs.YtmljebgideecjaaGreatW.PrintLast Go.Proofs.YtmljebgideecjaaGreatZ
abbrev iDesc:=S162
def smDesc (x:iDesc):Prop:=x.f2.length≤1048576∧x.f3.f1.length≤1048576
theorem eqDesc_ev (x:iDesc) (h:smDesc x):Ev (fun k=>XaR.f k x.f0 x.f1 x.f2 x.f3.f0 x.f3.f1 x.f0 x.f1 x.f2 x.f3.f0 x.f3.f1) true:=by
 unfold smDesc at h
 simp only[XaR.f,if_true]
 refine Ev.bind (eqEntryS_ev _ (by omega)) ?_
 simp only[if_true]
 refine Ev.bind (eqRes_ev _ _ (by omega)) ?_
 simp only[if_true]
 exact Ev.now _
theorem eqDescS_ev (l:List iDesc) (hl:l.length≤9223372036854775807) (hs:∀ x ∈ l,smDesc x):Ev (fun k=>Xw.f k l l) true:=by
 simp only[Xw.f,if_true]
 refine look_ev l true (g:=fun k i=>Xw.l0 k l l i) ?_ ?_
 ·refine Ev.shift ?_
  simp only[Xw.l0,Int.lt_irrefl,if_false]
  exact Ev.now _
 ·intro i x hx hi h
  have hr:rd_T162 l (i:Int)=x:=getD_get hx
  refine Ev.shift ?_
  have d1:(i:Int)<(l.length:Int):=by omega
  have d2:(0:Int)≤(i:Int):=by omega
  simp only[Xw.l0,d1,d2,if_true,hr,succ64 hi hl]
  refine Ev.bind (eqDesc_ev x (hs x (List.mem_of_getElem? hx))) ?_
  simp only[if_true]
  exact h
abbrev iThread:=S97
def smThread (x:iThread):Prop:=x.f0.length≤1048576∧x.f3.length≤1048576∧x.f4.length≤1048576
theorem eqThread_ev (x:iThread) (h:smThread x):Ev (fun k=>XaG.f k x.f0 x.f1 x.f2 x.f3 x.f4 x.f0 x.f1 x.f2 x.f3 x.f4) true:=by
 unfold smThread at h
 simp only[XaG.f]
 refine Ev.bind (eqOpS_ev _ (by omega)) ?_
 simp only[if_true,bne_self_eq_false,Bool.false_eq_true,if_false]
 refine Ev.bind (eqPairS_ev _ (by omega)) ?_
 simp only[if_true]
 refine Ev.bind (eqHelpS_ev _ (by omega)) ?_
 simp only[if_true]
 exact Ev.now _
theorem eqThreadS_ev (l:List iThread) (hl:l.length≤9223372036854775807) (hs:∀ x ∈ l,smThread x):Ev (fun k=>Xp.f k l l) true:=by
 simp only[Xp.f,if_true]
 refine look_ev l true (g:=fun k i=>Xp.l0 k l l i) ?_ ?_
 ·refine Ev.shift ?_
  simp only[Xp.l0,Int.lt_irrefl,if_false]
  exact Ev.now _
 ·intro i x hx hi h
  have hr:rd_T97 l (i:Int)=x:=getD_get hx
  refine Ev.shift ?_
  have d1:(i:Int)<(l.length:Int):=by omega
  have d2:(0:Int)≤(i:Int):=by omega
  simp only[Xp.l0,d1,d2,if_true,hr,succ64 hi hl]
  refine Ev.bind (eqThread_ev x (hs x (List.mem_of_getElem? hx))) ?_
  simp only[if_true]
  exact h
abbrev iCall:=S73
def smCall (x:iCall):Prop:=x.f5.f1.length≤1048576
theorem eqCall_ev (x:iCall) (h:smCall x):Ev (fun k=>XaS.f k x.f0 x.f1.f0 x.f1.f1 x.f1.f2 x.f2 x.f3 x.f4 x.f5.f0 x.f5.f1 x.f0 x.f1.f0 x.f1.f1 x.f1.f2 x.f2 x.f3 x.f4 x.f5.f0 x.f5.f1) true:=by
 unfold smCall at h
 simp only[XaS.f,XaM.f,if_true,Option.bind_some]
 refine Ev.bind (eqRes_ev _ _ (by omega)) ?_
 simp only[if_true]
 exact Ev.now _
theorem eqCallS_ev (l:List iCall) (hl:l.length≤9223372036854775807) (hs:∀ x ∈ l,smCall x):Ev (fun k=>Xx.f k l l) true:=by
 simp only[Xx.f,if_true]
 refine look_ev l true (g:=fun k i=>Xx.l0 k l l i) ?_ ?_
 ·refine Ev.shift ?_
  simp only[Xx.l0,Int.lt_irrefl,if_false]
  exact Ev.now _
 ·intro i x hx hi h
  have hr:rd_T73 l (i:Int)=x:=getD_get hx
  refine Ev.shift ?_
  have d1:(i:Int)<(l.length:Int):=by omega
  have d2:(0:Int)≤(i:Int):=by omega
  simp only[Xx.l0,d1,d2,if_true,hr,succ64 hi hl]
  refine Ev.bind (eqCall_ev x (hs x (List.mem_of_getElem? hx))) ?_
  simp only[if_true]
  exact h
abbrev mW:=S140
abbrev mD:=S162
abbrev mE:=S165
def entL:List mE→Int→Int × Int × Int × Bool
 | [],_=>(0,0,0,false)
 | e :: r,a=>if e.f0=a then (e.f0,e.f1,e.f2,true) else entL r a
theorem rdE_at {l:List mE} {i:Nat} (h:i<l.length):rd_T165 l (i:Int)=l[i]:=getD_get (List.getElem?_eq_getElem h)
theorem Xbi (a b:Int) (l:List mE) (c:Int) (q:List Int) (v:Int) (hl:l.length≤9223372036854775807):Ev (fun k=>XO.f k a b l c q v) (entL l v):=by
 simp only[XO.f]
 refine(back (n:=l.length) (Q:=fun i=>Ev (fun k=>XO.l0 k v (i:Int) a b l c q) (entL (l.drop i) v)) ?_ (fun i hi ih => ?_) 0 (Nat.zero_le _))
 ·refine Ev.shift ?_
  simp only[XO.l0,Int.lt_irrefl,if_false,List.drop_length,entL]
  exact Ev.now _
 ·have c0:(0:Int)≤(i:Int):=by omega
  have c1:(i:Int)<(l.length:Int):=by omega
  refine Ev.shift ?_
  rw[List.drop_eq_getElem_cons hi]
  simp only[XO.l0,c0,c1,if_true,rdE_at hi,entL,succ64 hi hl]
  by_cases h:l[i].f0=v
  ·simp only[h,if_true];exact Ev.now _
  ·simp only[h,if_false];exact ih
theorem Xbj (a b:Int) (l:List mE) (c:Int) (q:List Int) (v:Int) (hl:l.length≤9223372036854775807):Ev (fun k=>X7.f k a b l c q v) (entL l v):=by
 simp only[X7.f]
 refine(back (n:=l.length) (Q:=fun i=>Ev (fun k=>X7.l0 k v l (l.length:Int) (i:Int)) (entL (l.drop i) v)) ?_ (fun i hi ih => ?_) 0 (Nat.zero_le _))
 ·refine Ev.shift ?_
  simp only[X7.l0,Int.lt_irrefl,if_false,List.drop_length,entL]
  exact Ev.now _
 ·have c0:(0:Int)≤(i:Int):=by omega
  have c1:(i:Int)<(l.length:Int):=by omega
  refine Ev.shift ?_
  rw[List.drop_eq_getElem_cons hi]
  simp only[X7.l0,c0,c1,if_true,rdE_at hi,entL,succ64 hi hl]
  by_cases h:l[i].f0=v
  ·simp only[h,if_true];exact Ev.now _
  ·simp only[h,if_false];exact ih
theorem ctl_const' {τ:Type} (c:Int):∀ l:List τ,ctl (fun _=>c) l=c * l.length
 | []=>by simp[ctl]
 | x :: xs=>by simp only[ctl,ctl_const' c xs,List.length_cons];rw[Int.natCast_add,Int.mul_add];omega
def mkW (_:S140) (m:Int):S140:=⟨m,m+1,m+2⟩
theorem markWordS_ev' (l:List S140) (m:Int) (h0:0≤m) (hm:m+3 * l.length≤9223372036854775800):Ev (fun k=>XZ.f k l m) (m+3 * l.length,mkl (fun _=>3) mkW l m):=by
 have h:=mark_ev (fun _=>3) mkW (fun _=>by decide) 9223372036854775800 (g:=fun k l m i=>XZ.l0 k l m i) l.length ?_ ?_ l m rfl h0 (by rw[ctl_const'];omega)
 ·rw[ctl_const'] at h
  simp only[XZ.f]
  exact h
 ·intro s t hs
  refine Ev.shift ?_
  simp only[XZ.l0,Int.lt_irrefl,if_false]
  exact Ev.now _
 ·intro s t i x r hs hx hi h2 h3 h
  refine Ev.shift ?_
  have d1:(i:Int)<(s.length:Int):=by omega
  have d2:(0:Int)≤(i:Int):=by omega
  have e1:wrap64 (t+1)=t+1:=by rw[w64 (by omega) (by omega)]
  have e2:wrap64 (t+1+1)=t+2:=by rw[w64 (by omega) (by omega)];omega
  have e3:wrap64 (t+2+1)=t+3:=by rw[w64 (by omega) (by omega)];omega
  simp only[XZ.l0,d1,d2,if_true,Int.toNat_natCast,succ64 hi (by omega),e1,e2,e3]
  exact h
def mkE (_:S165) (m:Int):S165:=⟨m,m+1,m+2⟩
theorem markEntryS_ev' (l:List S165) (m:Int) (h0:0≤m) (hm:m+3 * l.length≤9223372036854775800):Ev (fun k=>XQ.f k l m) (m+3 * l.length,mkl (fun _=>3) mkE l m):=by
 have h:=mark_ev (fun _=>3) mkE (fun _=>by decide) 9223372036854775800 (g:=fun k l m i=>XQ.l0 k l m i) l.length ?_ ?_ l m rfl h0 (by rw[ctl_const'];omega)
 ·rw[ctl_const'] at h
  simp only[XQ.f]
  exact h
 ·intro s t hs
  refine Ev.shift ?_
  simp only[XQ.l0,Int.lt_irrefl,if_false]
  exact Ev.now _
 ·intro s t i x r hs hx hi h2 h3 h
  refine Ev.shift ?_
  have d1:(i:Int)<(s.length:Int):=by omega
  have d2:(0:Int)≤(i:Int):=by omega
  have e1:wrap64 (t+1)=t+1:=by rw[w64 (by omega) (by omega)]
  have e2:wrap64 (t+1+1)=t+2:=by rw[w64 (by omega) (by omega)];omega
  have e3:wrap64 (t+2+1)=t+3:=by rw[w64 (by omega) (by omega)];omega
  simp only[XQ.l0,d1,d2,if_true,Int.toNat_natCast,succ64 hi (by omega),e1,e2,e3]
  exact h
def mkOp (_:S69) (m:Int):S69:=⟨m,m+1,m+2⟩
theorem markOpS_ev' (l:List S69) (m:Int) (h0:0≤m) (hm:m+3 * l.length≤9223372036854775800):Ev (fun k=>X8.f k l m) (m+3 * l.length,mkl (fun _=>3) mkOp l m):=by
 have h:=mark_ev (fun _=>3) mkOp (fun _=>by decide) 9223372036854775800 (g:=fun k l m i=>X8.l0 k l m i) l.length ?_ ?_ l m rfl h0 (by rw[ctl_const'];omega)
 ·rw[ctl_const'] at h
  simp only[X8.f]
  exact h
 ·intro s t hs
  refine Ev.shift ?_
  simp only[X8.l0,Int.lt_irrefl,if_false]
  exact Ev.now _
 ·intro s t i x r hs hx hi h2 h3 h
  refine Ev.shift ?_
  have d1:(i:Int)<(s.length:Int):=by omega
  have d2:(0:Int)≤(i:Int):=by omega
  have e1:wrap64 (t+1)=t+1:=by rw[w64 (by omega) (by omega)]
  have e2:wrap64 (t+1+1)=t+2:=by rw[w64 (by omega) (by omega)];omega
  have e3:wrap64 (t+2+1)=t+3:=by rw[w64 (by omega) (by omega)];omega
  simp only[X8.l0,d1,d2,if_true,Int.toNat_natCast,succ64 hi (by omega),e1,e2,e3]
  exact h
def mkP (_:S172) (m:Int):S172:=⟨m,m+1⟩
theorem markPairS_ev' (l:List S172) (m:Int) (h0:0≤m) (hm:m+2 * l.length≤9223372036854775800):Ev (fun k=>X0.f k l m) (m+2 * l.length,mkl (fun _=>2) mkP l m):=by
 have h:=mark_ev (fun _=>2) mkP (fun _=>by decide) 9223372036854775800 (g:=fun k l m i=>X0.l0 k l m i) l.length ?_ ?_ l m rfl h0 (by rw[ctl_const'];omega)
 ·rw[ctl_const'] at h
  simp only[X0.f]
  exact h
 ·intro s t hs
  refine Ev.shift ?_
  simp only[X0.l0,Int.lt_irrefl,if_false]
  exact Ev.now _
 ·intro s t i x r hs hx hi h2 h3 h
  refine Ev.shift ?_
  have d1:(i:Int)<(s.length:Int):=by omega
  have d2:(0:Int)≤(i:Int):=by omega
  have e1:wrap64 (t+1)=t+1:=by rw[w64 (by omega) (by omega)]
  have e2:wrap64 (t+1+1)=t+2:=by rw[w64 (by omega) (by omega)];omega
  simp only[X0.l0,d1,d2,if_true,Int.toNat_natCast,succ64 hi (by omega),e1,e2]
  exact h
def mkH (_:S174) (m:Int):S174:=⟨m,m+1,m+2,m+3⟩
theorem markHelpS_ev' (l:List S174) (m:Int) (h0:0≤m) (hm:m+4 * l.length≤9223372036854775800):Ev (fun k=>X1.f k l m) (m+4 * l.length,mkl (fun _=>4) mkH l m):=by
 have h:=mark_ev (fun _=>4) mkH (fun _=>by decide) 9223372036854775800 (g:=fun k l m i=>X1.l0 k l m i) l.length ?_ ?_ l m rfl h0 (by rw[ctl_const'];omega)
 ·rw[ctl_const'] at h
  simp only[X1.f]
  exact h
 ·intro s t hs
  refine Ev.shift ?_
  simp only[X1.l0,Int.lt_irrefl,if_false]
  exact Ev.now _
 ·intro s t i x r hs hx hi h2 h3 h
  refine Ev.shift ?_
  have d1:(i:Int)<(s.length:Int):=by omega
  have d2:(0:Int)≤(i:Int):=by omega
  have e1:wrap64 (t+1)=t+1:=by rw[w64 (by omega) (by omega)]
  have e2:wrap64 (t+1+1)=t+2:=by rw[w64 (by omega) (by omega)];omega
  have e3:wrap64 (t+2+1)=t+3:=by rw[w64 (by omega) (by omega)];omega
  have e4:wrap64 (t+3+1)=t+4:=by rw[w64 (by omega) (by omega)];omega
  simp only[X1.l0,d1,d2,if_true,Int.toNat_natCast,succ64 hi (by omega),e1,e2,e3,e4]
  exact h
def mkInt (_:Int) (m:Int):Int:=m
theorem markIntS_ev' (l:List Int) (m:Int) (h0:0≤m) (hm:m+l.length≤9223372036854775800):Ev (fun k=>Xy.f k l m) (m+l.length,mkl (fun _=>1) mkInt l m):=by
 have h:=mark_ev (fun _=>1) mkInt (fun _=>by decide) 9223372036854775800 (g:=fun k l m i=>Xy.l0 k l m i) l.length ?_ ?_ l m rfl h0 (by rw[ctl_const'];omega)
 ·rw[ctl_const',Int.one_mul] at h
  simp only[Xy.f]
  exact h
 ·intro s t hs
  refine Ev.shift ?_
  simp only[Xy.l0,Int.lt_irrefl,if_false]
  exact Ev.now _
 ·intro s t i x r hs hx hi h2 h3 h
  refine Ev.shift ?_
  have d1:(i:Int)<(s.length:Int):=by omega
  have d2:(0:Int)≤(i:Int):=by omega
  have e1:wrap64 (t+1)=t+1:=by rw[w64 (by omega) (by omega)]
  simp only[Xy.l0,d1,d2,if_true,Option.bind_some,Int.toNat_natCast,succ64 hi (by omega),e1]
  exact h
def ctD (x:S162):Int:=3+3 * x.f2.length+x.f3.f1.length
def mkD (x:S162) (m:Int):S162:=⟨m,m+1,mkl (fun _=>3) mkE x.f2 (m+2),⟨m+2+3 * x.f2.length,mkl (fun _=>1) mkInt x.f3.f1 (m+3+3 * x.f2.length)⟩⟩
theorem markDescS_ev' (l:List S162) (m:Int) (h0:0≤m) (hl:l.length≤1048576) (hm:m+ctl ctD l≤9223372036854775800):Ev (fun k=>X3.f k l m) (m+ctl ctD l,mkl ctD mkD l m):=by
 have h:=mark_ev ctD mkD (fun _=>by simp only[ctD];omega) 9223372036854775800 (g:=fun k l m i=>X3.l0 k l m i) l.length ?_ ?_ l m rfl h0 hm
 ·simp only[X3.f]
  exact h
 ·intro s t hs
  refine Ev.shift ?_
  simp only[X3.l0,Int.lt_irrefl,if_false]
  exact Ev.now _
 ·intro s t i x r hs hx hi h2 h3 h
  refine Ev.shift ?_
  simp only[ctD,mkD] at h3 h
  have d1:(i:Int)<(s.length:Int):=by omega
  have d2:(0:Int)≤(i:Int):=by omega
  have d3:rd_T162 s (i:Int)=x:=getD_get hx
  have e1:wrap64 (t+1)=t+1:=by rw[w64 (by omega) (by omega)]
  have e2:wrap64 (t+1+1)=t+2:=by rw[w64 (by omega) (by omega)];omega
  have e3:wrap64 (t+2+3 * (x.f2.length:Int)+1)=t+3+3 * (x.f2.length:Int):=by rw[w64 (by omega) (by omega)];omega
  have e4:t+3+3 * (x.f2.length:Int)+(x.f3.f1.length:Int)=t+(3+3 * (x.f2.length:Int)+(x.f3.f1.length:Int)):=by omega
  simp only[X3.l0,d1,d2,d3,if_true,Int.toNat_natCast,succ64 hi (by omega),e1,e2]
  refine Ev.bind (markEntryS_ev' x.f2 (t+2) (by omega) (by omega)) ?_
  simp only[e3]
  refine Ev.bind (markIntS_ev' x.f3.f1 (t+3+3 * (x.f2.length:Int)) (by omega) (by omega)) ?_
  simp only[e4]
  exact h
def ctT (x:S97):Int:=3 * x.f0.length+2+2 * x.f3.length+4 * x.f4.length
def mkT (x:S97) (m:Int):S97:=⟨mkl (fun _=>3) mkOp x.f0 m,m+3 * x.f0.length,decide (Int.tmod (m+3 * x.f0.length+1) 3=0),mkl (fun _=>2) mkP x.f3 (m+3 * x.f0.length+2),mkl (fun _=>4) mkH x.f4 (m+3 * x.f0.length+2+2 * x.f3.length)⟩
theorem markThreadS_ev' (l:List S97) (m:Int) (h0:0≤m) (hl:l.length≤1048576) (hm:m+ctl ctT l≤9223372036854775800):Ev (fun k=>XM.f k l m) (m+ctl ctT l,mkl ctT mkT l m):=by
 have h:=mark_ev ctT mkT (fun _=>by simp only[ctT];omega) 9223372036854775800 (g:=fun k l m i=>XM.l0 k l m i) l.length ?_ ?_ l m rfl h0 hm
 ·simp only[XM.f]
  exact h
 ·intro s t hs
  refine Ev.shift ?_
  simp only[XM.l0,Int.lt_irrefl,if_false]
  exact Ev.now _
 ·intro s t i x r hs hx hi h2 h3 h
  refine Ev.shift ?_
  simp only[ctT,mkT] at h3 h
  have d1:(i:Int)<(s.length:Int):=by omega
  have d2:(0:Int)≤(i:Int):=by omega
  have d3:rd_T97 s (i:Int)=x:=getD_get hx
  have e1:wrap64 (t+3 * (x.f0.length:Int)+1)=t+3 * (x.f0.length:Int)+1:=by rw[w64 (by omega) (by omega)]
  have e2:wrap64 (t+3 * (x.f0.length:Int)+1+1)=t+3 * (x.f0.length:Int)+2:=by rw[w64 (by omega) (by omega)];omega
  have e4:t+3 * (x.f0.length:Int)+2+2 * (x.f3.length:Int)+4 * (x.f4.length:Int)=t+(3 * (x.f0.length:Int)+2+2 * (x.f3.length:Int)+4 * (x.f4.length:Int)):=by omega
  simp only[XM.l0,d1,d2,d3,if_true,Int.toNat_natCast,succ64 hi (by omega)]
  refine Ev.bind (markOpS_ev' x.f0 t (by omega) (by omega)) ?_
  simp only[e1,e2]
  refine Ev.bind (markPairS_ev' x.f3 (t+3 * (x.f0.length:Int)+2) (by omega) (by omega)) ?_
  refine Ev.bind (markHelpS_ev' x.f4 (t+3 * (x.f0.length:Int)+2+2 * (x.f3.length:Int)) (by omega) (by omega)) ?_
  simp only[e4]
  exact h
def ctC (x:S73):Int:=8+(x.f5.f1.length:Int)
def mkC (x:S73) (m:Int):S73:=⟨m,⟨m+1,m+2,m+3⟩,m+4,m+5,m+6,⟨m+7,mkl (fun _=>1) mkInt x.f5.f1 (m+8)⟩⟩
theorem markCallS_ev' (l:List S73) (m:Int) (h0:0≤m) (hl:l.length≤1048576) (hm:m+ctl ctC l≤9223372036854775800):Ev (fun k=>X4.f k l m) (m+ctl ctC l,mkl ctC mkC l m):=by
 have h:=mark_ev ctC mkC (fun _=>by simp only[ctC];omega) 9223372036854775800 (g:=fun k l m i=>X4.l0 k l m i) l.length ?_ ?_ l m rfl h0 hm
 ·simp only[X4.f]
  exact h
 ·intro s t hs
  refine Ev.shift ?_
  simp only[X4.l0,Int.lt_irrefl,if_false]
  exact Ev.now _
 ·intro s t i x r hs hx hi h2 h3 h
  refine Ev.shift ?_
  simp only[ctC,mkC] at h3 h
  have d1:(i:Int)<(s.length:Int):=by omega
  have d2:(0:Int)≤(i:Int):=by omega
  have d3:rd_T73 s (i:Int)=x:=getD_get hx
  have e1:wrap64 (t+1)=t+1:=by rw[w64 (by omega) (by omega)]
  have e2:wrap64 (t+1+1)=t+2:=by rw[w64 (by omega) (by omega)];omega
  have e3:wrap64 (t+2+1)=t+3:=by rw[w64 (by omega) (by omega)];omega
  have e4:wrap64 (t+3+1)=t+4:=by rw[w64 (by omega) (by omega)];omega
  have e5:wrap64 (t+4+1)=t+5:=by rw[w64 (by omega) (by omega)];omega
  have e6:wrap64 (t+5+1)=t+6:=by rw[w64 (by omega) (by omega)];omega
  have e7:wrap64 (t+6+1)=t+7:=by rw[w64 (by omega) (by omega)];omega
  have e8:wrap64 (t+7+1)=t+8:=by rw[w64 (by omega) (by omega)];omega
  have e9:t+8+(x.f5.f1.length:Int)=t+(8+(x.f5.f1.length:Int)):=by omega
  simp only[X4.l0,d1,d2,d3,if_true,Int.toNat_natCast,succ64 hi (by omega),e1,e2,e3,e4,e5,e6,e7,e8]
  refine Ev.bind (markIntS_ev' x.f5.f1 (t+8) (by omega) (by omega)) ?_
  simp only[e9]
  exact h
theorem ctl_le {τ:Type} {ct:τ→Int} {C:Int} : ∀ l:List τ,(∀ x ∈ l,ct x≤C)→ctl ct l≤C * l.length
 | [],_=>by simp[ctl]
 | x :: xs,h=>by
  have h1:=h x (List.mem_cons_self ..)
  have h2:=ctl_le xs (fun y hy=>h y (List.mem_cons_of_mem _ hy))
  simp only[ctl,List.length_cons,Int.natCast_add,Int.mul_add]
  omega
end Go.Proofs.YtmljebgideecjaaGreat.P2
