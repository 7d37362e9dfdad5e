/- A part of the proof of the law FnExactTold: texts of this seat, merged (words, printed functions of the program, plain lemmas). Conditions: none of its own. -/
import Derived.Test.YteamagejhbkhnaaPkFnExactTold27
set_option linter.unusedSimpArgs false
set_option linter.unusedVariables false
set_option maxHeartbeats 8000000
set_option maxRecDepth 100000
namespace Go.Proofs.Yteamagejhbkhnaa.P
open Go.RowKit Go.Proofs.YteamagejhbkhnaaW.PrintWords Go.Proofs.YteamagejhbkhnaaW.PrintLast Go.Proofs.YteamagejhbkhnaaZ
def PureFnExactTold:Prop:=∀ (x0:S78),wf78 x0→∃ k,XL.f k x0.f0.f0 x0.f0.f1 x0.f1 x0.f2 x0.f3 x0.f4 x0.f5.f0 x0.f5.f1=some true
theorem ctl_const' {τ:Type} (c:Int):∀ l:List τ,ctl (fun _=>c) l=c * l.length
 | []=>by simp[ctl]
 | x :: xs=>by simp only[ctl,ctl_const' c xs,List.length_cons];rw[Int.natCast_add,Int.mul_add];omega
def mkW (_:S170) (m:Int):S170:=⟨m,m+1,m+2⟩
theorem markWordS_ev' (l:List S170) (m:Int) (h0:0≤m) (hm:m+3 * l.length≤9223372036854775800):Ev (fun k=>Xv.f k l m) (m+3 * l.length,mkl (fun _=>3) mkW l m):=by
 have h:=mark_ev (fun _=>3) mkW (fun _=>by decide) 9223372036854775800 (g:=fun k l m i=>Xv.l0 k l m i) l.length ?_ ?_ l m rfl h0 (by rw[ctl_const'];omega)
 ·rw[ctl_const'] at h
  simp only[Xv.f]
  exact h
 ·intro s t hs
  refine Ev.shift ?_
  simp only[Xv.l0,Int.lt_irrefl,if_false]
  exact Ev.now _
 ·intro s t i x r hs hx hi h2 h3 h
  refine Ev.shift ?_
  have d1:(i:Int)<(s.length:Int):=by omega
  have d2:(0:Int)≤(i:Int):=by omega
  have e1:wrap64 (t+1)=t+1:=by rw[w64 (by omega) (by omega)]
  have e2:wrap64 (t+1+1)=t+2:=by rw[w64 (by omega) (by omega)];omega
  have e3:wrap64 (t+2+1)=t+3:=by rw[w64 (by omega) (by omega)];omega
  simp only[Xv.l0,d1,d2,if_true,Int.toNat_natCast,succ64 hi (by omega),e1,e2,e3]
  exact h
def mkE (_:S200) (m:Int):S200:=⟨m,m+1,m+2⟩
theorem markEntryS_ev' (l:List S200) (m:Int) (h0:0≤m) (hm:m+3 * l.length≤9223372036854775800):Ev (fun k=>Xr.f k l m) (m+3 * l.length,mkl (fun _=>3) mkE l m):=by
 have h:=mark_ev (fun _=>3) mkE (fun _=>by decide) 9223372036854775800 (g:=fun k l m i=>Xr.l0 k l m i) l.length ?_ ?_ l m rfl h0 (by rw[ctl_const'];omega)
 ·rw[ctl_const'] at h
  simp only[Xr.f]
  exact h
 ·intro s t hs
  refine Ev.shift ?_
  simp only[Xr.l0,Int.lt_irrefl,if_false]
  exact Ev.now _
 ·intro s t i x r hs hx hi h2 h3 h
  refine Ev.shift ?_
  have d1:(i:Int)<(s.length:Int):=by omega
  have d2:(0:Int)≤(i:Int):=by omega
  have e1:wrap64 (t+1)=t+1:=by rw[w64 (by omega) (by omega)]
  have e2:wrap64 (t+1+1)=t+2:=by rw[w64 (by omega) (by omega)];omega
  have e3:wrap64 (t+2+1)=t+3:=by rw[w64 (by omega) (by omega)];omega
  simp only[Xr.l0,d1,d2,if_true,Int.toNat_natCast,succ64 hi (by omega),e1,e2,e3]
  exact h
def mkOp (_:S56) (m:Int):S56:=⟨m,m+1,m+2⟩
theorem markOpS_ev' (l:List S56) (m:Int) (h0:0≤m) (hm:m+3 * l.length≤9223372036854775800):Ev (fun k=>XH.f k l m) (m+3 * l.length,mkl (fun _=>3) mkOp l m):=by
 have h:=mark_ev (fun _=>3) mkOp (fun _=>by decide) 9223372036854775800 (g:=fun k l m i=>XH.l0 k l m i) l.length ?_ ?_ l m rfl h0 (by rw[ctl_const'];omega)
 ·rw[ctl_const'] at h
  simp only[XH.f]
  exact h
 ·intro s t hs
  refine Ev.shift ?_
  simp only[XH.l0,Int.lt_irrefl,if_false]
  exact Ev.now _
 ·intro s t i x r hs hx hi h2 h3 h
  refine Ev.shift ?_
  have d1:(i:Int)<(s.length:Int):=by omega
  have d2:(0:Int)≤(i:Int):=by omega
  have e1:wrap64 (t+1)=t+1:=by rw[w64 (by omega) (by omega)]
  have e2:wrap64 (t+1+1)=t+2:=by rw[w64 (by omega) (by omega)];omega
  have e3:wrap64 (t+2+1)=t+3:=by rw[w64 (by omega) (by omega)];omega
  simp only[XH.l0,d1,d2,if_true,Int.toNat_natCast,succ64 hi (by omega),e1,e2,e3]
  exact h
def mkP (_:S187) (m:Int):S187:=⟨m,m+1⟩
theorem markPairS_ev' (l:List S187) (m:Int) (h0:0≤m) (hm:m+2 * l.length≤9223372036854775800):Ev (fun k=>Xw.f k l m) (m+2 * l.length,mkl (fun _=>2) mkP l m):=by
 have h:=mark_ev (fun _=>2) mkP (fun _=>by decide) 9223372036854775800 (g:=fun k l m i=>Xw.l0 k l m i) l.length ?_ ?_ l m rfl h0 (by rw[ctl_const'];omega)
 ·rw[ctl_const'] at h
  simp only[Xw.f]
  exact h
 ·intro s t hs
  refine Ev.shift ?_
  simp only[Xw.l0,Int.lt_irrefl,if_false]
  exact Ev.now _
 ·intro s t i x r hs hx hi h2 h3 h
  refine Ev.shift ?_
  have d1:(i:Int)<(s.length:Int):=by omega
  have d2:(0:Int)≤(i:Int):=by omega
  have e1:wrap64 (t+1)=t+1:=by rw[w64 (by omega) (by omega)]
  have e2:wrap64 (t+1+1)=t+2:=by rw[w64 (by omega) (by omega)];omega
  simp only[Xw.l0,d1,d2,if_true,Int.toNat_natCast,succ64 hi (by omega),e1,e2]
  exact h
def mkH (_:S189) (m:Int):S189:=⟨m,m+1,m+2,m+3⟩
theorem markHelpS_ev' (l:List S189) (m:Int) (h0:0≤m) (hm:m+4 * l.length≤9223372036854775800):Ev (fun k=>Xx.f k l m) (m+4 * l.length,mkl (fun _=>4) mkH l m):=by
 have h:=mark_ev (fun _=>4) mkH (fun _=>by decide) 9223372036854775800 (g:=fun k l m i=>Xx.l0 k l m i) l.length ?_ ?_ l m rfl h0 (by rw[ctl_const'];omega)
 ·rw[ctl_const'] at h
  simp only[Xx.f]
  exact h
 ·intro s t hs
  refine Ev.shift ?_
  simp only[Xx.l0,Int.lt_irrefl,if_false]
  exact Ev.now _
 ·intro s t i x r hs hx hi h2 h3 h
  refine Ev.shift ?_
  have d1:(i:Int)<(s.length:Int):=by omega
  have d2:(0:Int)≤(i:Int):=by omega
  have e1:wrap64 (t+1)=t+1:=by rw[w64 (by omega) (by omega)]
  have e2:wrap64 (t+1+1)=t+2:=by rw[w64 (by omega) (by omega)];omega
  have e3:wrap64 (t+2+1)=t+3:=by rw[w64 (by omega) (by omega)];omega
  have e4:wrap64 (t+3+1)=t+4:=by rw[w64 (by omega) (by omega)];omega
  simp only[Xx.l0,d1,d2,if_true,Int.toNat_natCast,succ64 hi (by omega),e1,e2,e3,e4]
  exact h
def mkInt (_:Int) (m:Int):Int:=m
theorem markIntS_ev' (l:List Int) (m:Int) (h0:0≤m) (hm:m+l.length≤9223372036854775800):Ev (fun k=>Xh.f k l m) (m+l.length,mkl (fun _=>1) mkInt l m):=by
 have h:=mark_ev (fun _=>1) mkInt (fun _=>by decide) 9223372036854775800 (g:=fun k l m i=>Xh.l0 k l m i) l.length ?_ ?_ l m rfl h0 (by rw[ctl_const'];omega)
 ·rw[ctl_const',Int.one_mul] at h
  simp only[Xh.f]
  exact h
 ·intro s t hs
  refine Ev.shift ?_
  simp only[Xh.l0,Int.lt_irrefl,if_false]
  exact Ev.now _
 ·intro s t i x r hs hx hi h2 h3 h
  refine Ev.shift ?_
  have d1:(i:Int)<(s.length:Int):=by omega
  have d2:(0:Int)≤(i:Int):=by omega
  have e1:wrap64 (t+1)=t+1:=by rw[w64 (by omega) (by omega)]
  simp only[Xh.l0,d1,d2,if_true,Option.bind_some,Int.toNat_natCast,succ64 hi (by omega),e1]
  exact h
def ctD (x:S175):Int:=3+3 * x.f2.length+x.f3.f1.length
def mkD (x:S175) (m:Int):S175:=⟨m,m+1,mkl (fun _=>3) mkE x.f2 (m+2),⟨m+2+3 * x.f2.length,mkl (fun _=>1) mkInt x.f3.f1 (m+3+3 * x.f2.length)⟩⟩
theorem markDescS_ev' (l:List S175) (m:Int) (h0:0≤m) (hl:l.length≤1048576) (hm:m+ctl ctD l≤9223372036854775800):Ev (fun k=>Xz.f k l m) (m+ctl ctD l,mkl ctD mkD l m):=by
 have h:=mark_ev ctD mkD (fun _=>by simp only[ctD];omega) 9223372036854775800 (g:=fun k l m i=>Xz.l0 k l m i) l.length ?_ ?_ l m rfl h0 hm
 ·simp only[Xz.f]
  exact h
 ·intro s t hs
  refine Ev.shift ?_
  simp only[Xz.l0,Int.lt_irrefl,if_false]
  exact Ev.now _
 ·intro s t i x r hs hx hi h2 h3 h
  refine Ev.shift ?_
  simp only[ctD,mkD] at h3 h
  have d1:(i:Int)<(s.length:Int):=by omega
  have d2:(0:Int)≤(i:Int):=by omega
  have d3:rd_T175 s (i:Int)=x:=getD_get hx
  have e1:wrap64 (t+1)=t+1:=by rw[w64 (by omega) (by omega)]
  have e2:wrap64 (t+1+1)=t+2:=by rw[w64 (by omega) (by omega)];omega
  have e3:wrap64 (t+2+3 * (x.f2.length:Int)+1)=t+3+3 * (x.f2.length:Int):=by rw[w64 (by omega) (by omega)];omega
  have e4:t+3+3 * (x.f2.length:Int)+(x.f3.f1.length:Int)=t+(3+3 * (x.f2.length:Int)+(x.f3.f1.length:Int)):=by omega
  simp only[Xz.l0,d1,d2,d3,if_true,Int.toNat_natCast,succ64 hi (by omega),e1,e2]
  refine Ev.bind (markEntryS_ev' x.f2 (t+2) (by omega) (by omega)) ?_
  simp only[e3]
  refine Ev.bind (markIntS_ev' x.f3.f1 (t+3+3 * (x.f2.length:Int)) (by omega) (by omega)) ?_
  simp only[e4]
  exact h
def ctT (x:S146):Int:=3 * x.f0.length+2+2 * x.f3.length+4 * x.f4.length
def mkT (x:S146) (m:Int):S146:=⟨mkl (fun _=>3) mkOp x.f0 m,m+3 * x.f0.length,decide (Int.tmod (m+3 * x.f0.length+1) 3=0),mkl (fun _=>2) mkP x.f3 (m+3 * x.f0.length+2),mkl (fun _=>4) mkH x.f4 (m+3 * x.f0.length+2+2 * x.f3.length)⟩
theorem markThreadS_ev' (l:List S146) (m:Int) (h0:0≤m) (hl:l.length≤1048576) (hm:m+ctl ctT l≤9223372036854775800):Ev (fun k=>Xl.f k l m) (m+ctl ctT l,mkl ctT mkT l m):=by
 have h:=mark_ev ctT mkT (fun _=>by simp only[ctT];omega) 9223372036854775800 (g:=fun k l m i=>Xl.l0 k l m i) l.length ?_ ?_ l m rfl h0 hm
 ·simp only[Xl.f]
  exact h
 ·intro s t hs
  refine Ev.shift ?_
  simp only[Xl.l0,Int.lt_irrefl,if_false]
  exact Ev.now _
 ·intro s t i x r hs hx hi h2 h3 h
  refine Ev.shift ?_
  simp only[ctT,mkT] at h3 h
  have d1:(i:Int)<(s.length:Int):=by omega
  have d2:(0:Int)≤(i:Int):=by omega
  have d3:rd_T146 s (i:Int)=x:=getD_get hx
  have e1:wrap64 (t+3 * (x.f0.length:Int)+1)=t+3 * (x.f0.length:Int)+1:=by rw[w64 (by omega) (by omega)]
  have e2:wrap64 (t+3 * (x.f0.length:Int)+1+1)=t+3 * (x.f0.length:Int)+2:=by rw[w64 (by omega) (by omega)];omega
  have e4:t+3 * (x.f0.length:Int)+2+2 * (x.f3.length:Int)+4 * (x.f4.length:Int)=t+(3 * (x.f0.length:Int)+2+2 * (x.f3.length:Int)+4 * (x.f4.length:Int)):=by omega
  simp only[Xl.l0,d1,d2,d3,if_true,Int.toNat_natCast,succ64 hi (by omega)]
  refine Ev.bind (markOpS_ev' x.f0 t (by omega) (by omega)) ?_
  simp only[e1,e2]
  refine Ev.bind (markPairS_ev' x.f3 (t+3 * (x.f0.length:Int)+2) (by omega) (by omega)) ?_
  refine Ev.bind (markHelpS_ev' x.f4 (t+3 * (x.f0.length:Int)+2+2 * (x.f3.length:Int)) (by omega) (by omega)) ?_
  simp only[e4]
  exact h
def ctC (x:S59):Int:=8+(x.f5.f1.length:Int)
def mkC (x:S59) (m:Int):S59:=⟨m,⟨m+1,m+2,m+3⟩,m+4,m+5,m+6,⟨m+7,mkl (fun _=>1) mkInt x.f5.f1 (m+8)⟩⟩
theorem markCallS_ev' (l:List S59) (m:Int) (h0:0≤m) (hl:l.length≤1048576) (hm:m+ctl ctC l≤9223372036854775800):Ev (fun k=>Xo.f k l m) (m+ctl ctC l,mkl ctC mkC l m):=by
 have h:=mark_ev ctC mkC (fun _=>by simp only[ctC];omega) 9223372036854775800 (g:=fun k l m i=>Xo.l0 k l m i) l.length ?_ ?_ l m rfl h0 hm
 ·simp only[Xo.f]
  exact h
 ·intro s t hs
  refine Ev.shift ?_
  simp only[Xo.l0,Int.lt_irrefl,if_false]
  exact Ev.now _
 ·intro s t i x r hs hx hi h2 h3 h
  refine Ev.shift ?_
  simp only[ctC,mkC] at h3 h
  have d1:(i:Int)<(s.length:Int):=by omega
  have d2:(0:Int)≤(i:Int):=by omega
  have d3:rd_T59 s (i:Int)=x:=getD_get hx
  have e1:wrap64 (t+1)=t+1:=by rw[w64 (by omega) (by omega)]
  have e2:wrap64 (t+1+1)=t+2:=by rw[w64 (by omega) (by omega)];omega
  have e3:wrap64 (t+2+1)=t+3:=by rw[w64 (by omega) (by omega)];omega
  have e4:wrap64 (t+3+1)=t+4:=by rw[w64 (by omega) (by omega)];omega
  have e5:wrap64 (t+4+1)=t+5:=by rw[w64 (by omega) (by omega)];omega
  have e6:wrap64 (t+5+1)=t+6:=by rw[w64 (by omega) (by omega)];omega
  have e7:wrap64 (t+6+1)=t+7:=by rw[w64 (by omega) (by omega)];omega
  have e8:wrap64 (t+7+1)=t+8:=by rw[w64 (by omega) (by omega)];omega
  have e9:t+8+(x.f5.f1.length:Int)=t+(8+(x.f5.f1.length:Int)):=by omega
  simp only[Xo.l0,d1,d2,d3,if_true,Int.toNat_natCast,succ64 hi (by omega),e1,e2,e3,e4,e5,e6,e7,e8]
  refine Ev.bind (markIntS_ev' x.f5.f1 (t+8) (by omega) (by omega)) ?_
  simp only[e9]
  exact h
theorem ctl_le {τ:Type} {ct:τ→Int} {C:Int} : ∀ l:List τ,(∀ x ∈ l,ct x≤C)→ctl ct l≤C * l.length
 | [],_=>by simp[ctl]
 | x :: xs,h=>by
  have h1:=h x (List.mem_cons_self ..)
  have h2:=ctl_le xs (fun y hy=>h y (List.mem_cons_of_mem _ hy))
  simp only[ctl,List.length_cons,Int.natCast_add,Int.mul_add]
  omega
theorem markMachine_ev (w:List S170) (d:List S175) (t:List S146) (tm:Int) (c:List S59) (o q:List Int) (s:Int) (hw:w.length≤1048576) (hd:d.length≤1048576) (hd2:∀ x ∈ d,x.f2.length≤1048576∧x.f3.f1.length≤1048576) (ht:t.length≤1048576) (ht2:∀ x ∈ t,x.f0.length≤1048576∧x.f3.length≤1048576∧x.f4.length≤1048576) (hc:c.length≤1048576) (hc2:∀ x ∈ c,x.f5.f1.length≤1048576) (ho:o.length≤1048576) (hq:q.length≤1048576) :
  ∃ r,0≤r∧Ev (fun k=>XI.f k w d t tm c o q s 1) r:=by
 have b1:=ctl_le (ct:=ctD) (C:=5000000) d (fun x hx=>by have:=hd2 x hx;simp only[ctD];omega)
 have b2:=ctl_le (ct:=ctT) (C:=10000000) t (fun x hx=>by have:=ht2 x hx;simp only[ctT];omega)
 have b3:=ctl_le (ct:=ctC) (C:=5000000) c (fun x hx=>by have:=hc2 x hx;simp only[ctC];omega)
 have n1:=ctl_nonneg (ct:=ctD) (fun x=>by simp only[ctD];omega) d
 have n2:=ctl_nonneg (ct:=ctT) (fun x=>by simp only[ctT];omega) t
 have n3:=ctl_nonneg (ct:=ctC) (fun x=>by simp only[ctC];omega) c
 refine⟨1+3 * w.length+ctl ctD d+ctl ctT t+ctl ctC c+o.length+q.length,by omega,?_⟩
 simp only[XI.f,XI.g,Xal.f,X7.f,Option.bind_assoc]
 refine Ev.bind (markWordS_ev' w 1 (by decide) (by omega)) (Ev.bind (markDescS_ev' d _ (by omega) hd (by omega)) ?_)
 simp only[Option.bind_some]
 refine Ev.bind (markThreadS_ev' t _ (by omega) ht (by omega)) (Ev.bind (markCallS_ev' c _ (by omega) hc (by omega)) (Ev.bind (markIntS_ev' o _ (by omega) (by omega)) (Ev.bind (markIntS_ev' q _ (by omega) (by omega)) ?_)))
 simp only[Option.bind_some]
 exact Ev.now _
end Go.Proofs.Yteamagejhbkhnaa.P
