/- A part of the proof of the law FnExactMachineNew: texts of this seat, merged (words, printed functions of the program, plain lemmas). Conditions: none of its own. -/
import Derived.Test.YtmljebgideecjaaGreatP2kFnExactMachineNew42
set_option linter.unusedSimpArgs false
set_option linter.unusedVariables false
set_option maxHeartbeats 8000000
set_option maxRecDepth 100000
namespace Go.Proofs.YtmljebgideecjaaGreat.P2
open Go.RowKit Go.Proofs.YtmljebgideecjaaGreatW.PrintWords Go.Proofs.YtmljebgideecjaaGreatW.PrintLast Go.Proofs.YtmljebgideecjaaGreatZ
def wtL (x:List lOp):Int:=x.length
theorem wtL_nn (x:List lOp):0≤wtL x:=by unfold wtL;omega
theorem szOpSS_ev (l:List (List lOp)) (hl:l.length≤9223372036854775807) (hw:∀ x ∈ l,x.length≤9223372036854775807) (t:Int) (h0:0≤t) (h1:t≤1048576):Ev (fun k=>Xad.f k l t) (lf (l.length+ctl wtL l) t):=by
 have hc:=ctl_nonneg wtL_nn l
 have e:wrap64 (t - (l.length:Int))=t - l.length:=w64 (by omega) (by omega)
 simp only[Xad.f,e]
 by_cases h:(l.length:Int)≤t
 ·have c:¬ (t - (l.length:Int)<0):=by omega
  simp only[c,if_false]
  have h:=size_ev l wtL wtL_nn 1048576 (g:=fun k t i=>Xad.l0 k l t i) ?_ ?_ ?_ (t - l.length) (by omega) (by omega)
  ·refine h.to ?_
   unfold lf
   by_cases h2:ctl wtL l≤t - l.length
   ·rw[if_pos h2,if_pos (by omega)];omega
   ·rw[if_neg h2,if_neg (by omega)]
  ·intro t
   refine Ev.shift ?_
   simp only[Xad.l0,Int.lt_irrefl,if_false]
   exact Ev.now _
  ·intro t i x hx hi h0 h1 hlt
   have hr:rd_L10 l (i:Int)=x:=getD_get hx
   have d1:(i:Int)<(l.length:Int):=by omega
   have d2:(0:Int)≤(i:Int):=by omega
   refine Ev.shift ?_
   simp only[Xad.l0,d1,d2,if_true,hr,szOpS_eq x t h0 h1 (hw x (List.mem_of_getElem? hx)),lf_neg (show ¬ (x.length:Int)≤t by unfold wtL at hlt;omega),Option.bind_some,show (-1:Int)<0 by decide]
   exact Ev.now _
  ·intro t i x r hx hi h0 h1 hle h
   have hr:rd_L10 l (i:Int)=x:=getD_get hx
   have d1:(i:Int)<(l.length:Int):=by omega
   have d2:(0:Int)≤(i:Int):=by omega
   unfold wtL at hle h
   have d3:¬ (t - (x.length:Int)<0):=by omega
   refine Ev.shift ?_
   simp only[Xad.l0,d1,d2,if_true,hr,szOpS_eq x t h0 h1 (hw x (List.mem_of_getElem? hx)),lf_pos hle,Option.bind_some,d3,if_false,succ64 hi hl]
   exact h
 ·have c:t - (l.length:Int)<0:=by omega
  simp only[c,if_true]
  exact Ev.val (lf_neg (by omega)).symm
theorem toOpSS_ev (l:List (List lOp)) (hl:l.length≤1048576) (hs:∀ x ∈ l,x.length≤1048576):Ev (fun k=>XJ.f k l) (l.map (fun x=>x.map cOp)):=by
 have c1:(0:Int)≤(l.length:Int):=by omega
 simp only[XJ.f,c1,if_true,Int.toNat_natCast]
 refine Ev.pos (by omega) ?_
 refine fill_ev l (fun x=>x.map cOp) [] (g:=fun k s i=>XJ.l0 k l s i) ?_ ?_
 ·intro s hs
  refine Ev.shift ?_
  simp only[XJ.l0,Int.lt_irrefl,if_false]
  exact Ev.now _
 ·intro s i x r hx hs' hi h
  have hr:rd_L10 l (i:Int)=x:=getD_get hx
  refine Ev.shift ?_
  have d1:(i:Int)<(l.length:Int):=by omega
  have d2:(0:Int)≤(i:Int):=by omega
  have d3:(i:Int)<(s.length:Int):=by omega
  simp only[XJ.l0,d1,d2,if_true,hr]
  refine Ev.bind (toOpS_ev x (hs x (List.mem_of_getElem? hx))) ?_
  simp only[d3,if_true,Int.toNat_natCast,succ64 hi (by omega)]
  exact h
theorem eqOpSS_ev (l:List (List iOp)) (hl:l.length≤9223372036854775807) (hs:∀ x ∈ l,x.length≤9223372036854775807):Ev (fun k=>XH.f k l l) true:=by
 simp only[XH.f,if_true]
 refine look_ev l true (g:=fun k i=>XH.l0 k l l i) ?_ ?_
 ·refine Ev.shift ?_
  simp only[XH.l0,Int.lt_irrefl,if_false]
  exact Ev.now _
 ·intro i x hx hi h
  have hr:rd_L22 l (i:Int)=x:=getD_get hx
  refine Ev.shift ?_
  have d1:(i:Int)<(l.length:Int):=by omega
  have d2:(0:Int)≤(i:Int):=by omega
  simp only[XH.l0,d1,d2,if_true,hr,succ64 hi hl]
  refine Ev.bind (eqOpS_ev x (hs x (List.mem_of_getElem? hx))) ?_
  simp only[if_true]
  exact h
def ctOS (x:List S69):Int:=3 * x.length
def mkOS (x:List S69) (m:Int):List S69:=mkl (fun _=>3) mkOp x m
theorem markOpSS_ev (l:List (List S69)) (m:Int) (h0:0≤m) (hl:l.length≤1048576) (hm:m+ctl ctOS l≤9223372036854775800):Ev (fun k=>X9.f k l m) (m+ctl ctOS l,mkl ctOS mkOS l m):=by
 have h:=mark_ev ctOS mkOS (fun _=>by simp only[ctOS];omega) 9223372036854775800 (g:=fun k l m i=>X9.l0 k l m i) l.length ?_ ?_ l m rfl h0 hm
 ·simp only[X9.f]
  exact h
 ·intro s t hs
  refine Ev.shift ?_
  simp only[X9.l0,Int.lt_irrefl,if_false]
  exact Ev.now _
 ·intro s t i x r hs hx hi h2 h3 h
  refine Ev.shift ?_
  simp only[ctOS,mkOS] at h3 h
  have d1:(i:Int)<(s.length:Int):=by omega
  have d2:(0:Int)≤(i:Int):=by omega
  have d3:rd_L22 s (i:Int)=x:=getD_get hx
  simp only[X9.l0,d1,d2,d3,if_true,Int.toNat_natCast,succ64 hi (by omega)]
  exact Ev.bind (markOpS_ev' x t (by omega) (by omega)) h
theorem heldWordS_ev' (l:List S140) (m:Int) (h0:0≤m) (hm:m+3 * l.length≤9223372036854775800):Ev (fun k=>XX.f k (mkl (fun _=>3) mkW l m) m) (m+3 * l.length):=by
 have h:=held_ev (fun _=>3) mkW (fun _=>by decide) 9223372036854775800 (g:=fun k l m i=>XX.l0 k l m i) l.length ?_ ?_ l m rfl h0 (by rw[ctl_const'];omega)
 ·rw[ctl_const'] at h
  simp only[XX.f]
  exact h
 ·intro s t hs
  refine Ev.shift ?_
  simp only[XX.l0,Int.lt_irrefl,if_false]
  exact Ev.now _
 ·intro s t i x r hs hx hi h2 h3 h
  refine Ev.shift ?_
  have d1:(i:Int)<(s.length:Int):=by omega
  have d2:(0:Int)≤(i:Int):=by omega
  have d3:rd_T140 s (i:Int)=mkW x t:=getD_get hx
  have e1:wrap64 (t+1)=t+1:=by rw[w64 (by omega) (by omega)]
  have e2:wrap64 (t+1+1)=t+2:=by rw[w64 (by omega) (by omega)];omega
  have e3:wrap64 (t+2+1)=t+3:=by rw[w64 (by omega) (by omega)];omega
  simp only[XX.l0,d1,d2,d3,mkW,if_true,succ64 hi (by omega),e1,e2,e3]
  exact h
theorem heldEntryS_ev' (l:List S165) (m:Int) (h0:0≤m) (hm:m+3 * l.length≤9223372036854775800):Ev (fun k=>XI.f k (mkl (fun _=>3) mkE l m) m) (m+3 * l.length):=by
 have h:=held_ev (fun _=>3) mkE (fun _=>by decide) 9223372036854775800 (g:=fun k l m i=>XI.l0 k l m i) l.length ?_ ?_ l m rfl h0 (by rw[ctl_const'];omega)
 ·rw[ctl_const'] at h
  simp only[XI.f]
  exact h
 ·intro s t hs
  refine Ev.shift ?_
  simp only[XI.l0,Int.lt_irrefl,if_false]
  exact Ev.now _
 ·intro s t i x r hs hx hi h2 h3 h
  refine Ev.shift ?_
  have d1:(i:Int)<(s.length:Int):=by omega
  have d2:(0:Int)≤(i:Int):=by omega
  have d3:rd_T165 s (i:Int)=mkE x t:=getD_get hx
  have e1:wrap64 (t+1)=t+1:=by rw[w64 (by omega) (by omega)]
  have e2:wrap64 (t+1+1)=t+2:=by rw[w64 (by omega) (by omega)];omega
  have e3:wrap64 (t+2+1)=t+3:=by rw[w64 (by omega) (by omega)];omega
  simp only[XI.l0,d1,d2,d3,mkE,if_true,succ64 hi (by omega),e1,e2,e3]
  exact h
theorem heldOpS_ev' (l:List S69) (m:Int) (h0:0≤m) (hm:m+3 * l.length≤9223372036854775800):Ev (fun k=>XW.f k (mkl (fun _=>3) mkOp l m) m) (m+3 * l.length):=by
 have h:=held_ev (fun _=>3) mkOp (fun _=>by decide) 9223372036854775800 (g:=fun k l m i=>XW.l0 k l m i) l.length ?_ ?_ l m rfl h0 (by rw[ctl_const'];omega)
 ·rw[ctl_const'] at h
  simp only[XW.f]
  exact h
 ·intro s t hs
  refine Ev.shift ?_
  simp only[XW.l0,Int.lt_irrefl,if_false]
  exact Ev.now _
 ·intro s t i x r hs hx hi h2 h3 h
  refine Ev.shift ?_
  have d1:(i:Int)<(s.length:Int):=by omega
  have d2:(0:Int)≤(i:Int):=by omega
  have d3:rd_T69 s (i:Int)=mkOp x t:=getD_get hx
  have e1:wrap64 (t+1)=t+1:=by rw[w64 (by omega) (by omega)]
  have e2:wrap64 (t+1+1)=t+2:=by rw[w64 (by omega) (by omega)];omega
  have e3:wrap64 (t+2+1)=t+3:=by rw[w64 (by omega) (by omega)];omega
  simp only[XW.l0,d1,d2,d3,mkOp,if_true,succ64 hi (by omega),e1,e2,e3]
  exact h
theorem heldPairS_ev' (l:List S172) (m:Int) (h0:0≤m) (hm:m+2 * l.length≤9223372036854775800):Ev (fun k=>XS.f k (mkl (fun _=>2) mkP l m) m) (m+2 * l.length):=by
 have h:=held_ev (fun _=>2) mkP (fun _=>by decide) 9223372036854775800 (g:=fun k l m i=>XS.l0 k l m i) l.length ?_ ?_ l m rfl h0 (by rw[ctl_const'];omega)
 ·rw[ctl_const'] at h
  simp only[XS.f]
  exact h
 ·intro s t hs
  refine Ev.shift ?_
  simp only[XS.l0,Int.lt_irrefl,if_false]
  exact Ev.now _
 ·intro s t i x r hs hx hi h2 h3 h
  refine Ev.shift ?_
  have d1:(i:Int)<(s.length:Int):=by omega
  have d2:(0:Int)≤(i:Int):=by omega
  have d3:rd_T172 s (i:Int)=mkP x t:=getD_get hx
  have e1:wrap64 (t+1)=t+1:=by rw[w64 (by omega) (by omega)]
  have e2:wrap64 (t+1+1)=t+2:=by rw[w64 (by omega) (by omega)];omega
  simp only[XS.l0,d1,d2,d3,mkP,if_true,succ64 hi (by omega),e1,e2]
  exact h
theorem heldHelpS_ev' (l:List S174) (m:Int) (h0:0≤m) (hm:m+4 * l.length≤9223372036854775800):Ev (fun k=>XY.f k (mkl (fun _=>4) mkH l m) m) (m+4 * l.length):=by
 have h:=held_ev (fun _=>4) mkH (fun _=>by decide) 9223372036854775800 (g:=fun k l m i=>XY.l0 k l m i) l.length ?_ ?_ l m rfl h0 (by rw[ctl_const'];omega)
 ·rw[ctl_const'] at h
  simp only[XY.f]
  exact h
 ·intro s t hs
  refine Ev.shift ?_
  simp only[XY.l0,Int.lt_irrefl,if_false]
  exact Ev.now _
 ·intro s t i x r hs hx hi h2 h3 h
  refine Ev.shift ?_
  have d1:(i:Int)<(s.length:Int):=by omega
  have d2:(0:Int)≤(i:Int):=by omega
  have d3:rd_T174 s (i:Int)=mkH x t:=getD_get hx
  have e1:wrap64 (t+1)=t+1:=by rw[w64 (by omega) (by omega)]
  have e2:wrap64 (t+1+1)=t+2:=by rw[w64 (by omega) (by omega)];omega
  have e3:wrap64 (t+2+1)=t+3:=by rw[w64 (by omega) (by omega)];omega
  have e4:wrap64 (t+3+1)=t+4:=by rw[w64 (by omega) (by omega)];omega
  simp only[XY.l0,d1,d2,d3,mkH,if_true,succ64 hi (by omega),e1,e2,e3,e4]
  exact h
theorem heldIntS_ev' (l:List Int) (m:Int) (h0:0≤m) (hm:m+l.length≤9223372036854775800):Ev (fun k=>XC.f k (mkl (fun _=>1) mkInt l m) m) (m+l.length):=by
 have h:=held_ev (fun _=>1) mkInt (fun _=>by decide) 9223372036854775800 (g:=fun k l m i=>XC.l0 k l m i) l.length ?_ ?_ l m rfl h0 (by rw[ctl_const'];omega)
 ·rw[ctl_const',Int.one_mul] at h
  simp only[XC.f]
  exact h
 ·intro s t hs
  refine Ev.shift ?_
  simp only[XC.l0,Int.lt_irrefl,if_false]
  exact Ev.now _
 ·intro s t i x r hs hx hi h2 h3 h
  refine Ev.shift ?_
  have d1:(i:Int)<(s.length:Int):=by omega
  have d2:(0:Int)≤(i:Int):=by omega
  have d3:rd s (i:Int)=t:=rd_get hx
  simp only[XC.l0,d1,d2,d3,if_true,succ64 hi (by omega),w64 (n:=t+1) (by omega) (by omega)]
  exact h
theorem heldDescS_ev' (l:List S162) (m:Int) (h0:0≤m) (hl:l.length≤1048576) (hm:m+ctl ctD l≤9223372036854775800):Ev (fun k=>X2.f k (mkl ctD mkD l m) m) (m+ctl ctD l):=by
 have h:=held_ev ctD mkD (fun _=>by simp only[ctD];omega) 9223372036854775800 (g:=fun k l m i=>X2.l0 k l m i) l.length ?_ ?_ l m rfl h0 hm
 ·simp only[X2.f]
  exact h
 ·intro s t hs
  refine Ev.shift ?_
  simp only[X2.l0,Int.lt_irrefl,if_false]
  exact Ev.now _
 ·intro s t i x r hs hx hi h2 h3 h
  refine Ev.shift ?_
  simp only[ctD] at h3 h
  have d1:(i:Int)<(s.length:Int):=by omega
  have d2:(0:Int)≤(i:Int):=by omega
  have d3:rd_T162 s (i:Int)=mkD x t:=getD_get hx
  have e1:wrap64 (t+1)=t+1:=by rw[w64 (by omega) (by omega)]
  have e2:wrap64 (t+1+1)=t+2:=by rw[w64 (by omega) (by omega)];omega
  have e3:wrap64 (t+2+3 * (x.f2.length:Int)+1)=t+3+3 * (x.f2.length:Int):=by rw[w64 (by omega) (by omega)];omega
  have e4:t+3+3 * (x.f2.length:Int)+(x.f3.f1.length:Int)=t+(3+3 * (x.f2.length:Int)+(x.f3.f1.length:Int)):=by omega
  simp only[X2.l0,d1,d2,d3,mkD,if_true,Int.toNat_natCast,succ64 hi (by omega),e1,e2]
  refine Ev.bind (heldEntryS_ev' x.f2 (t+2) (by omega) (by omega)) (Ev.neg (by omega) (Ev.pos rfl ?_))
  simp only[e3]
  refine Ev.bind (heldIntS_ev' x.f3.f1 (t+3+3 * (x.f2.length:Int)) (by omega) (by omega)) (Ev.neg (by omega) ?_)
  simp only[e4]
  exact h
theorem heldThreadS_ev' (l:List S97) (m:Int) (h0:0≤m) (hl:l.length≤1048576) (hm:m+ctl ctT l≤9223372036854775800):Ev (fun k=>XL.f k (mkl ctT mkT l m) m) (m+ctl ctT l):=by
 have h:=held_ev ctT mkT (fun _=>by simp only[ctT];omega) 9223372036854775800 (g:=fun k l m i=>XL.l0 k l m i) l.length ?_ ?_ l m rfl h0 hm
 ·simp only[XL.f]
  exact h
 ·intro s t hs
  refine Ev.shift ?_
  simp only[XL.l0,Int.lt_irrefl,if_false]
  exact Ev.now _
 ·intro s t i x r hs hx hi h2 h3 h
  refine Ev.shift ?_
  simp only[ctT] at h3 h
  have d1:(i:Int)<(s.length:Int):=by omega
  have d2:(0:Int)≤(i:Int):=by omega
  have d3:rd_T97 s (i:Int)=mkT x t:=getD_get hx
  have e1:wrap64 (t+3 * (x.f0.length:Int)+1)=t+3 * (x.f0.length:Int)+1:=by rw[w64 (by omega) (by omega)]
  have e2:wrap64 (t+3 * (x.f0.length:Int)+1+1)=t+3 * (x.f0.length:Int)+2:=by rw[w64 (by omega) (by omega)];omega
  have e4:t+3 * (x.f0.length:Int)+2+2 * (x.f3.length:Int)+4 * (x.f4.length:Int)=t+(3 * (x.f0.length:Int)+2+2 * (x.f3.length:Int)+4 * (x.f4.length:Int)):=by omega
  have e5:(decide (Int.tmod (t+3 * (x.f0.length:Int)+1) 3=0) != (Int.tmod (t+3 * (x.f0.length:Int)+1) 3 == 0))=false:=by
   by_cases hz:Int.tmod (t+3 * (x.f0.length:Int)+1) 3=0
   ·rw[decide_eq_true hz,hz];rfl
   ·rw[decide_eq_false hz,beq_eq_false_iff_ne.mpr hz];rfl
  simp only[XL.l0,d1,d2,d3,mkT,if_true,Int.toNat_natCast,succ64 hi (by omega)]
  refine Ev.bind (heldOpS_ev' x.f0 t (by omega) (by omega)) (Ev.neg (by omega) (Ev.pos rfl ?_))
  simp only[e1,e2,e5,Bool.false_eq_true,if_false]
  refine Ev.bind (heldPairS_ev' x.f3 (t+3 * (x.f0.length:Int)+2) (by omega) (by omega)) (Ev.neg (by omega) ?_)
  refine Ev.bind (heldHelpS_ev' x.f4 (t+3 * (x.f0.length:Int)+2+2 * (x.f3.length:Int)) (by omega) (by omega)) (Ev.neg (by omega) ?_)
  simp only[e4]
  exact h
theorem ev_rounds' {α:Type} {g:Nat→Option α} {r:α} (h:Ev g r):∃ k,g k=some r:=by
 obtain⟨K,h⟩:=h
 exact⟨K,h K (Nat.le_refl _)⟩
theorem eqNew_ev (w:List S140) (d:List S162) (t:List S97) (q:List Int) (s:Int) (hw:w.length≤1048576) (hd:d.length≤1048576) (hd2:∀ x ∈ d,smDesc x) (ht:t.length≤1048576) (ht2:∀ x ∈ t,smThread x) (hq:q.length≤1048576) :
  Ev (fun k=>Xal.f k w d t 0 [] [] q s w d t 0 [] [] q s) true:=by
 have hm:Ev (fun k=>Xa1.f k w d w d) true:=by
  simp only[Xa1.f]
  refine Ev.bind (eqWordS_ev _ (by omega)) (Ev.pos rfl ?_)
  refine Ev.bind (eqDescS_ev _ (by omega) hd2) (Ev.pos rfl (Ev.now _))
 have hr:Ev (fun k=>Xar.f k q s q s) true:=by
  simp only[Xar.f]
  refine Ev.bind (eqIntS_ev q (by omega)) (Ev.pos rfl (Ev.pos trivial (Ev.now _)))
 simp only[Xal.f]
 refine Ev.bind hm (Ev.pos rfl (Ev.bind (eqThreadS_ev _ (by omega) ht2) (Ev.pos rfl (Ev.pos trivial (Ev.bind (eqCallS_ev [] (by simp) (fun x hx=>by cases hx)) (Ev.pos rfl (Ev.bind (eqIntS_ev [] (by simp)) (Ev.pos rfl (Ev.bind hr (Ev.pos rfl (Ev.now _)))))))))))
theorem markNew_ev (w:List S140) (d:List S162) (t:List S97) (q:List Int) (s:Int) (hw:w.length≤1048576) (hd:d.length≤1048576) (hd2:∀ x ∈ d,smDesc x) (ht:t.length≤1048576) (ht2:∀ x ∈ t,smThread x) (hq:q.length≤1048576) :
  ∃ z:Int × List S140 × List S162 × List S97 × List S73 × List Int × List Int,0≤z.1∧Ev (fun k=>XaB.g k w d t [] [] q s 1) z∧Ev (fun k=>Xan.f k z.2.1 z.2.2.1 z.2.2.2.1 0 z.2.2.2.2.1 z.2.2.2.2.2.1 z.2.2.2.2.2.2 s 1) z.1:=by
 have b1:=ctl_le (ct:=ctD) (C:=5000000) d (fun x hx=>by have:=hd2 x hx;unfold smDesc at this;simp only[ctD];omega)
 have b2:=ctl_le (ct:=ctT) (C:=10000000) t (fun x hx=>by have:=ht2 x hx;unfold smThread at this;simp only[ctT];omega)
 have n1:=ctl_nonneg (ct:=ctD) (fun x=>by simp only[ctD];omega) d
 have n2:=ctl_nonneg (ct:=ctT) (fun x=>by simp only[ctT];omega) t
 refine⟨(1+3 * w.length+ctl ctD d+ctl ctT t+0+(0:Nat)+q.length,mkl (fun _=>3) mkW w 1,mkl ctD mkD d (1+3 * w.length),mkl ctT mkT t (1+3 * w.length+ctl ctD d),[],[],mkl (fun _=>1) mkInt q (1+3 * w.length+ctl ctD d+ctl ctT t+0+(0:Nat))),by simp only;omega,?_,?_⟩
 ·simp only[XaB.g,Xa6.f,Xas.f,Option.bind_assoc]
  refine Ev.bind (markWordS_ev' w 1 (by decide) (by omega)) (Ev.bind (markDescS_ev' d _ (by omega) hd (by omega)) ?_)
  simp only[Option.bind_some]
  refine Ev.bind (markThreadS_ev' t _ (by omega) ht (by omega)) (Ev.bind (markCallS_ev' [] _ (by omega) (by simp) (by simp only[ctl];omega)) (Ev.bind (markIntS_ev' [] _ (by simp only[ctl];omega) (by simp only[ctl,List.length_nil];omega)) (Ev.bind (markIntS_ev' q _ (by simp only[ctl,List.length_nil];omega) (by simp only[ctl,List.length_nil];omega)) ?_)))
  simp only[Option.bind_some]
  exact Ev.now _
 ·simp only[Xan.f]
  have hM:Ev (fun k=>XaN.f k (mkl (fun _=>3) mkW w 1) (mkl ctD mkD d (1+3 * w.length)) 1) (1+3 * w.length+ctl ctD d):=by
   simp only[XaN.f]
   refine Ev.bind (heldWordS_ev' w 1 (by decide) (by omega)) (Ev.neg (by omega) (Ev.bind (heldDescS_ev' d _ (by omega) hd (by omega)) (Ev.neg (by omega) (Ev.now _))))
  have hC:Ev (fun k=>Xab.f k [] (1+3 * w.length+ctl ctD d+ctl ctT t)) (1+3 * w.length+ctl ctD d+ctl ctT t+0):=by
   simp only[Xab.f,Int.add_zero]
   refine Ev.shift ?_
   simp only[Xab.l0,List.length_nil,Int.lt_irrefl,if_false]
   exact Ev.now _
  have hR:Ev (fun k=>XaP.f k (mkl (fun _=>1) mkInt q (1+3 * w.length+ctl ctD d+ctl ctT t+0+(0:Nat))) s (1+3 * w.length+ctl ctD d+ctl ctT t+0+(0:Nat))) (1+3 * w.length+ctl ctD d+ctl ctT t+0+(0:Nat)+q.length):=by
   simp only[XaP.f]
   refine Ev.bind (heldIntS_ev' q _ (by omega) (by omega)) (Ev.neg (by omega) (Ev.now _))
  refine Ev.bind hM (Ev.neg (by omega) (Ev.bind (heldThreadS_ev' t _ (by omega) ht (by omega)) (Ev.neg (by omega) (Ev.bind hC (Ev.neg (by omega) (Ev.bind (heldIntS_ev' [] _ (by omega) (by simp only[List.length_nil];omega)) (Ev.neg (by simp only[List.length_nil];omega) (Ev.bind hR (Ev.neg (by omega) (Ev.now (1+3 * (w.length:Int)+ctl ctD d+ctl ctT t+0+(0:Nat)+q.length)))))))))))
theorem pureFnExactMachineNew:PureFnExactMachineNew:=by
 intro x l hx hl
 refine ev_rounds' ?_
 obtain⟨⟨q1,q2⟩,q3⟩:=hx
 obtain⟨l1,l2⟩:=hl
 have hlw:∀ y ∈ l,y.length≤9223372036854775807:=fun y hy=>(l2 y hy).1
 have nl:=ctl_nonneg wtL_nn l
 simp only[XU.f,XaQ.f,szIntS_eq x.f0 1048576 (by decide) (by decide) q1,Option.bind_some]
 by_cases h1:(x.f0.length:Int)≤1048576
 ·have c1:¬ lf (x.f0.length:Int) 1048576<0:=by rw[lf_pos h1];omega
  simp only[c1,if_false,Option.bind_some]
  refine Ev.bind (szOpSS_ev l l1 hlw (lf (x.f0.length:Int) 1048576) (by rw[lf_pos h1];omega) (by rw[lf_pos h1];omega)) ?_
  by_cases h2:(l.length:Int)+ctl wtL l≤1048576 - x.f0.length
  ·rw[lf_pos h1,lf_pos h2]
   refine Ev.neg (by omega) ?_
   have hls:∀ y ∈ l,y.length≤1048576:=fun y hy=>by
    have:wtL y≤ctl wtL l:=ctl_mem wtL_nn hy
    have e:wtL y=y.length:=rfl
    omega
   have hq:x.f0.length≤1048576:=by omega
   have hR:Ev (fun k=>Xao.f k x.f0 x.f1) (x.f0,x.f1):=by
    simp only[Xao.f]
    exact Ev.bind (toIntS_ev x.f0 hq) (Ev.now _)
   have hO:=toOpSS_ev l (by omega) hls
   have hol:(l.map (fun y=>y.map cOp)).length≤1048576:=by rw[List.length_map];omega
   have hos:∀ y ∈ l.map (fun y=>y.map cOp),y.length≤1048576:=fun y hy=>by
    obtain⟨z,hz,rfl⟩:=List.mem_map.mp hy
    rw[List.length_map];exact hls z hz
   have gS:=Xby x.f0 x.f1 (l.map (fun y=>y.map cOp)) hq hol hos
   have gI:=Xbx x.f0 x.f1 (l.map (fun y=>y.map cOp)) hq hol hos
   have hER:Ev (fun k=>Xar.f k x.f0 x.f1 x.f0 x.f1) true:=by
    simp only[Xar.f]
    refine Ev.bind (eqIntS_ev x.f0 (by omega)) (Ev.pos rfl (Ev.pos trivial (Ev.now _)))
   have hEO:=eqOpSS_ev (l.map (fun y=>y.map cOp)) (by omega) (fun y hy=>by have:=hos y hy;omega)
   have hMR:Ev (fun k=>Xas.f k x.f0 x.f1 1) (1+(x.f0.length:Int),mkl (fun _=>1) mkInt x.f0 1):=by
    simp only[Xas.f]
    exact Ev.bind (markIntS_ev' x.f0 1 (by decide) (by omega)) (Ev.now _)
   have bO:=ctl_le (ct:=ctOS) (C:=5000000) (l.map (fun y=>y.map cOp)) (fun y hy=>by have:=hos y hy;simp only[ctOS];omega)
   have nO:=ctl_nonneg (ct:=ctOS) (fun x=>by simp only[ctOS];omega) (l.map (fun y=>y.map cOp))
   have hMO:=markOpSS_ev (l.map (fun y=>y.map cOp)) (1+(x.f0.length:Int)) (by omega) hol (by omega)
   have sM:=smM_new x.f0 x.f1 (l.map (fun y=>y.map cOp)) hq hol hos
   obtain⟨M,hM,w,d,t,q,s,b,rfl,e1,e2,e3,e4,e5,e6⟩:∃ M,M=machNew x.f0 x.f1 (l.map (fun y=>y.map cOp))∧∃ w d t q s b,M=(w,d,t,0,[],[],q,s,b)∧w.length≤1048576∧d.length≤1048576∧(∀ y ∈ d,smDesc y)∧t.length≤1048576∧(∀ y ∈ t,smThread y)∧q.length≤1048576:=by
    refine⟨_,rfl,?_⟩
    by_cases a:okNew x.f0 x.f1 (l.map (fun y=>y.map cOp))
    ·rw[machNew_yes a]
     refine⟨_,_,_,_,_,_,rfl,sM.1,sM.2.1,fun y hy => ?_,sM.2.2.2.1,fun y hy=>sM.2.2.2.2.1 y hy,hq⟩
     rw[(List.mem_replicate.mp hy).2]
     exact⟨by decide,by decide⟩
    ·rw[machNew_no a]
     exact⟨_,_,_,_,_,_,rfl,by simp,by simp,fun y hy=>(by cases hy),by simp,fun y hy=>(by cases hy),by simp⟩
   rw[← hM] at gS gI
   obtain⟨z,z0,zm,zh⟩:=markNew_ev w d t q s e1 e2 e3 e4 e5 e6
   have hE:=eqNew_ev w d t q s e1 e2 e3 e4 e5 e6
   refine Ev.bind hR (Ev.bind hO (Ev.bind gS (Ev.bind hR (Ev.bind hO (Ev.bind gI (Ev.bind hE (Ev.pos rfl (Ev.pos rfl (Ev.bind hR (Ev.bind hER (Ev.pos rfl (Ev.bind hO (Ev.bind hEO (Ev.pos rfl (Ev.bind hMR (Ev.bind hMO (Ev.neg (by simp only;omega) (Ev.bind hE (Ev.pos rfl (Ev.pos rfl ?_))))))))))))))))))))
   simp only[XU.g]
   exact Ev.bind zm (Ev.bind zh (Ev.neg (by omega) (Ev.pos rfl (Ev.bind hR (Ev.bind hO (Ev.bind gI (Ev.bind hE (Ev.pos rfl (Ev.pos rfl (Ev.bind zh (Ev.neg (by omega) (Ev.pos rfl (Ev.now _)))))))))))))
  ·rw[lf_pos h1,lf_neg h2]
   exact Ev.pos (by decide) (Ev.now _)
 ·have c1:lf (x.f0.length:Int) 1048576<0:=by rw[lf_neg h1];decide
  simp only[c1,if_true,show (-1:Int)<0 by decide,Option.bind_some]
  exact Ev.now _
end Go.Proofs.YtmljebgideecjaaGreat.P2
