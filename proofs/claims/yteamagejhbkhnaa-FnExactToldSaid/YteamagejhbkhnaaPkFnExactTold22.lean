/- A part of the proof of the law FnExactTold: texts of this seat, merged (words, printed functions of the program, plain lemmas). Conditions: none of its own. -/
import Derived.Test.YteamagejhbkhnaaPkFnExactTold17
import Derived.Test.YteamagejhbkhnaaPkFnExactTold18
import Derived.Test.YteamagejhbkhnaaPkFnExactTold19
set_option linter.unusedSimpArgs false
set_option linter.unusedVariables false
set_option maxHeartbeats 8000000
set_option maxRecDepth 100000
namespace Go.Proofs.Yteamagejhbkhnaa.P
open Go.RowKit Go.Proofs.YteamagejhbkhnaaW.PrintWords Go.Proofs.YteamagejhbkhnaaW.PrintLast Go.Proofs.YteamagejhbkhnaaZ
abbrev lThread:=S139
abbrev iThread:=S146
def cThread (x:lThread):iThread:=⟨x.f0.map cOp,x.f1,x.f2,x.f3.map cPair,x.f4.map cHelp⟩
def wtThread (x:lThread):Int:=(x.f0.length:Int)+(x.f3.length+x.f4.length)
def smThread (x:iThread):Prop:=x.f0.length≤1048576∧x.f3.length≤1048576∧x.f4.length≤1048576
theorem wtThread_nn (x:lThread):0≤wtThread x:=by unfold wtThread;omega
theorem smThread_of (x:lThread) (h:wtThread x≤1048576):smThread (cThread x):=by
 unfold wtThread at h
 simp only[smThread,cThread,List.length_map]
 omega
theorem szThread_eq (x:lThread) (t:Int) (h0:0≤t) (h1:t≤1048576) (hw:x.f0.length≤9223372036854775807∧x.f3.length≤9223372036854775807∧x.f4.length≤9223372036854775807):XX.f x.f0 x.f1 x.f2 x.f3 x.f4 t=some (lf (wtThread x) t):=by
 unfold wtThread
 simp only[XX.f]
 rw[szOpS_eq _ t h0 h1 hw.1,Option.bind_some]
 refine lf_then (a:=(x.f0.length:Int)) (b:=(x.f3.length:Int)+x.f4.length) (G:=fun u=>(XQ.f x.f3 u).bind fun t103=>(if t103<0 then some (-1) else (XN.f x.f4 t103).bind fun t104=>(if t104<0 then some (-1) else some t104))) (by omega) (by omega) h1 (fun u u0 u1 => ?_)
 show (XQ.f x.f3 u).bind _=_
 rw[szPairS_eq _ u u0 u1 hw.2.1,Option.bind_some]
 exact lf_then (a:=(x.f3.length:Int)) (b:=(x.f4.length:Int)) (G:=fun v=>(XN.f x.f4 v).bind fun t104=>(if t104<0 then some (-1) else some t104)) (by omega) (by omega) u1 (fun v v0 v1=>by show (XN.f x.f4 v).bind _=_;rw[szHelpS_eq _ v v0 v1 hw.2.2,Option.bind_some];exact lf_last (by omega))
theorem toThread_ev (x:lThread) (h:wtThread x≤1048576):Ev (fun k=>XY.f k x.f0 x.f1 x.f2 x.f3 x.f4) (x.f0.map cOp,x.f1,x.f2,x.f3.map cPair,x.f4.map cHelp):=by
 unfold wtThread at h
 simp only[XY.f]
 refine Ev.bind (toOpS_ev _ (by omega)) (Ev.bind (toPairS_ev _ (by omega)) (Ev.bind (toHelpS_ev _ (by omega)) (Ev.now _)))
theorem eqThread_ev (x:iThread) (h:smThread x):Ev (fun k=>XT.f k x.f0 x.f1 x.f2 x.f3 x.f4 x.f0 x.f1 x.f2 x.f3 x.f4) true:=by
 unfold smThread at h
 simp only[XT.f]
 refine Ev.bind (eqOpS_ev _ (by omega)) ?_
 simp only[if_true,bne_self_eq_false,Bool.false_eq_true,if_false]
 refine Ev.bind (eqPairS_ev _ (by omega)) ?_
 simp only[if_true]
 refine Ev.bind (eqHelpS_ev _ (by omega)) ?_
 simp only[if_true]
 exact Ev.now _
theorem szThreadS_ev (l:List lThread) (hl:l.length≤9223372036854775807) (hw:∀ x ∈ l,x.f0.length≤9223372036854775807∧x.f3.length≤9223372036854775807∧x.f4.length≤9223372036854775807) (t:Int) (h0:0≤t) (h1:t≤1048576):Ev (fun k=>Xi.f k l t) (lf (l.length+ctl wtThread l) t):=by
 have hc:=ctl_nonneg wtThread_nn l
 have e:wrap64 (t - (l.length:Int))=t - l.length:=w64 (by omega) (by omega)
 simp only[Xi.f,e]
 by_cases h:(l.length:Int)≤t
 ·have c:¬ (t - (l.length:Int)<0):=by omega
  simp only[c,if_false]
  have h:=size_ev l wtThread wtThread_nn 1048576 (g:=fun k t i=>Xi.l0 k l t i) ?_ ?_ ?_ (t - l.length) (by omega) (by omega)
  ·refine h.to ?_
   unfold lf
   by_cases h2:ctl wtThread l≤t - l.length
   ·rw[if_pos h2,if_pos (by omega)];omega
   ·rw[if_neg h2,if_neg (by omega)]
  ·intro t
   refine Ev.shift ?_
   simp only[Xi.l0,Int.lt_irrefl,if_false]
   exact Ev.now _
  ·intro t i x hx hi h0 h1 hlt
   have hr:rd_T139 l (i:Int)=x:=getD_get hx
   have d1:(i:Int)<(l.length:Int):=by omega
   have d2:(0:Int)≤(i:Int):=by omega
   refine Ev.shift ?_
   simp only[Xi.l0,d1,d2,if_true,hr,szThread_eq x t h0 h1 (hw x (List.mem_of_getElem? hx)),lf_neg (show ¬ wtThread x≤t by omega),Option.bind_some,show (-1:Int)<0 by decide]
   exact Ev.now _
  ·intro t i x r hx hi h0 h1 hle h
   have hr:rd_T139 l (i:Int)=x:=getD_get hx
   have d1:(i:Int)<(l.length:Int):=by omega
   have d2:(0:Int)≤(i:Int):=by omega
   have d3:¬ (t - wtThread x<0):=by omega
   refine Ev.shift ?_
   simp only[Xi.l0,d1,d2,if_true,hr,szThread_eq x t h0 h1 (hw x (List.mem_of_getElem? hx)),lf_pos hle,Option.bind_some,d3,if_false,succ64 hi hl]
   exact h
 ·have c:t - (l.length:Int)<0:=by omega
  simp only[c,if_true]
  exact Ev.val (lf_neg (by omega)).symm
theorem toThreadS_ev (l:List lThread) (hl:l.length≤1048576) (hw:ctl wtThread l≤1048576):Ev (fun k=>Xj.f k l) (l.map cThread):=by
 have c1:(0:Int)≤(l.length:Int):=by omega
 simp only[Xj.f,c1,if_true,Int.toNat_natCast]
 refine Ev.pos (by omega) ?_
 refine fill_ev l cThread z146 (g:=fun k s i=>Xj.l0 k l s i) ?_ ?_
 ·intro s hs
  refine Ev.shift ?_
  simp only[Xj.l0,Int.lt_irrefl,if_false]
  exact Ev.now _
 ·intro s i x r hx hs hi h
  have hr:rd_T139 l (i:Int)=x:=getD_get hx
  have hm:=ctl_mem wtThread_nn (List.mem_of_getElem? hx)
  refine Ev.shift ?_
  have d1:(i:Int)<(l.length:Int):=by omega
  have d2:(0:Int)≤(i:Int):=by omega
  have d3:(i:Int)<(s.length:Int):=by omega
  simp only[Xj.l0,d1,d2,if_true,hr]
  refine Ev.bind (toThread_ev x (by omega)) ?_
  simp only[d3,if_true,Int.toNat_natCast,succ64 hi (by omega)]
  exact h
theorem eqThreadS_ev (l:List iThread) (hl:l.length≤9223372036854775807) (hs:∀ x ∈ l,smThread x):Ev (fun k=>Xb.f k l l) true:=by
 simp only[Xb.f,if_true]
 refine look_ev l true (g:=fun k i=>Xb.l0 k l l i) ?_ ?_
 ·refine Ev.shift ?_
  simp only[Xb.l0,Int.lt_irrefl,if_false]
  exact Ev.now _
 ·intro i x hx hi h
  have hr:rd_T146 l (i:Int)=x:=getD_get hx
  refine Ev.shift ?_
  have d1:(i:Int)<(l.length:Int):=by omega
  have d2:(0:Int)≤(i:Int):=by omega
  simp only[Xb.l0,d1,d2,if_true,hr,succ64 hi hl]
  refine Ev.bind (eqThread_ev x (hs x (List.mem_of_getElem? hx))) ?_
  simp only[if_true]
  exact h
abbrev lCall:=S53
abbrev iCall:=S59
def cCall (x:lCall):iCall:=⟨x.f0,⟨x.f1.f0,x.f1.f1,x.f1.f2⟩,x.f2,x.f3,x.f4,⟨x.f5.f0,x.f5.f1⟩⟩
def wtCall (x:lCall):Int:=(x.f5.f1.length:Int)
def smCall (x:iCall):Prop:=x.f5.f1.length≤1048576
theorem wtCall_nn (x:lCall):0≤wtCall x:=by unfold wtCall;omega
theorem smCall_of (x:lCall) (h:wtCall x≤1048576):smCall (cCall x):=by
 unfold wtCall at h
 simp only[smCall,cCall,List.length_map]
 omega
theorem szCall_eq (x:lCall) (t:Int) (h0:0≤t) (h1:t≤1048576) (hw:x.f5.f1.length≤9223372036854775807):Xah.f x.f0 x.f1.f0 x.f1.f1 x.f1.f2 x.f2 x.f3 x.f4 x.f5.f0 x.f5.f1 t=some (lf (wtCall x) t):=by
 unfold wtCall
 simp only[Xah.f]
 rw[szRes_eq _ _ t h0 h1 hw,Option.bind_some]
 exact lf_last (by omega)
theorem toCall_ev (x:lCall) (h:wtCall x≤1048576):Ev (fun k=>Xaj.f k x.f0 x.f1.f0 x.f1.f1 x.f1.f2 x.f2 x.f3 x.f4 x.f5.f0 x.f5.f1) (x.f0,x.f1.f0,x.f1.f1,x.f1.f2,x.f2,x.f3,x.f4,x.f5.f0,x.f5.f1):=by
 unfold wtCall at h
 simp only[Xaj.f,X8.f,Option.bind_some]
 exact Ev.bind (toRes_ev _ _ (by omega)) (Ev.now _)
theorem eqCall_ev (x:iCall) (h:smCall x):Ev (fun k=>X2.f k x.f0 x.f1.f0 x.f1.f1 x.f1.f2 x.f2 x.f3 x.f4 x.f5.f0 x.f5.f1 x.f0 x.f1.f0 x.f1.f1 x.f1.f2 x.f2 x.f3 x.f4 x.f5.f0 x.f5.f1) true:=by
 unfold smCall at h
 simp only[X2.f,XV.f,if_true,Option.bind_some]
 refine Ev.bind (eqRes_ev _ _ (by omega)) ?_
 simp only[if_true]
 exact Ev.now _
theorem szCallS_ev (l:List lCall) (hl:l.length≤9223372036854775807) (hw:∀ x ∈ l,x.f5.f1.length≤9223372036854775807) (t:Int) (h0:0≤t) (h1:t≤1048576):Ev (fun k=>Xs.f k l t) (lf (l.length+ctl wtCall l) t):=by
 have hc:=ctl_nonneg wtCall_nn l
 have e:wrap64 (t - (l.length:Int))=t - l.length:=w64 (by omega) (by omega)
 simp only[Xs.f,e]
 by_cases h:(l.length:Int)≤t
 ·have c:¬ (t - (l.length:Int)<0):=by omega
  simp only[c,if_false]
  have h:=size_ev l wtCall wtCall_nn 1048576 (g:=fun k t i=>Xs.l0 k l t i) ?_ ?_ ?_ (t - l.length) (by omega) (by omega)
  ·refine h.to ?_
   unfold lf
   by_cases h2:ctl wtCall l≤t - l.length
   ·rw[if_pos h2,if_pos (by omega)];omega
   ·rw[if_neg h2,if_neg (by omega)]
  ·intro t
   refine Ev.shift ?_
   simp only[Xs.l0,Int.lt_irrefl,if_false]
   exact Ev.now _
  ·intro t i x hx hi h0 h1 hlt
   have hr:rd_T53 l (i:Int)=x:=getD_get hx
   have d1:(i:Int)<(l.length:Int):=by omega
   have d2:(0:Int)≤(i:Int):=by omega
   refine Ev.shift ?_
   simp only[Xs.l0,d1,d2,if_true,hr,szCall_eq x t h0 h1 (hw x (List.mem_of_getElem? hx)),lf_neg (show ¬ wtCall x≤t by omega),Option.bind_some,show (-1:Int)<0 by decide]
   exact Ev.now _
  ·intro t i x r hx hi h0 h1 hle h
   have hr:rd_T53 l (i:Int)=x:=getD_get hx
   have d1:(i:Int)<(l.length:Int):=by omega
   have d2:(0:Int)≤(i:Int):=by omega
   have d3:¬ (t - wtCall x<0):=by omega
   refine Ev.shift ?_
   simp only[Xs.l0,d1,d2,if_true,hr,szCall_eq x t h0 h1 (hw x (List.mem_of_getElem? hx)),lf_pos hle,Option.bind_some,d3,if_false,succ64 hi hl]
   exact h
 ·have c:t - (l.length:Int)<0:=by omega
  simp only[c,if_true]
  exact Ev.val (lf_neg (by omega)).symm
theorem toCallS_ev (l:List lCall) (hl:l.length≤1048576) (hw:ctl wtCall l≤1048576):Ev (fun k=>Xu.f k l) (l.map cCall):=by
 have c1:(0:Int)≤(l.length:Int):=by omega
 simp only[Xu.f,c1,if_true,Int.toNat_natCast]
 refine Ev.pos (by omega) ?_
 refine fill_ev l cCall z59 (g:=fun k s i=>Xu.l0 k l s i) ?_ ?_
 ·intro s hs
  refine Ev.shift ?_
  simp only[Xu.l0,Int.lt_irrefl,if_false]
  exact Ev.now _
 ·intro s i x r hx hs hi h
  have hr:rd_T53 l (i:Int)=x:=getD_get hx
  have hm:=ctl_mem wtCall_nn (List.mem_of_getElem? hx)
  refine Ev.shift ?_
  have d1:(i:Int)<(l.length:Int):=by omega
  have d2:(0:Int)≤(i:Int):=by omega
  have d3:(i:Int)<(s.length:Int):=by omega
  simp only[Xu.l0,d1,d2,if_true,hr]
  refine Ev.bind (toCall_ev x (by omega)) ?_
  simp only[d3,if_true,Int.toNat_natCast,succ64 hi (by omega)]
  exact h
theorem eqCallS_ev (l:List iCall) (hl:l.length≤9223372036854775807) (hs:∀ x ∈ l,smCall x):Ev (fun k=>Xa.f k l l) true:=by
 simp only[Xa.f,if_true]
 refine look_ev l true (g:=fun k i=>Xa.l0 k l l i) ?_ ?_
 ·refine Ev.shift ?_
  simp only[Xa.l0,Int.lt_irrefl,if_false]
  exact Ev.now _
 ·intro i x hx hi h
  have hr:rd_T59 l (i:Int)=x:=getD_get hx
  refine Ev.shift ?_
  have d1:(i:Int)<(l.length:Int):=by omega
  have d2:(0:Int)≤(i:Int):=by omega
  simp only[Xa.l0,d1,d2,if_true,hr,succ64 hi hl]
  refine Ev.bind (eqCall_ev x (hs x (List.mem_of_getElem? hx))) ?_
  simp only[if_true]
  exact h
end Go.Proofs.Yteamagejhbkhnaa.P
