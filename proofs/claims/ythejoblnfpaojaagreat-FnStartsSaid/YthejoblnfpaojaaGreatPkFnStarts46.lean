/- A part of the proof of the law FnStarts: texts of this seat, merged (words, printed functions of the program, plain lemmas). Conditions: none of its own. -/
import Derived.Test.YthejoblnfpaojaaGreatPkFnStarts45
set_option linter.unusedSimpArgs false
set_option linter.unusedVariables false
set_option maxHeartbeats 8000000
set_option maxRecDepth 100000
namespace Go.Proofs.YthejoblnfpaojaaGreat.P
open Go.RowKit Go.Proofs.YthejoblnfpaojaaGreatW.PrintWords Go.Proofs.YthejoblnfpaojaaGreatW.PrintLast Go.Proofs.YthejoblnfpaojaaGreatZ
theorem drawNew_evg {bs:List Int} (hb:bs.length≤1048576):EvG (fun k=>Xz.f k bs) (fun r=>r.1.length≤4∧r.2.2.length≤6∧∀ x ∈ r.2.2,x.length≤4):=by
 simp only[Xz.f]
 refine EvG.bind (newC_evg hb) (fun c0 h0=>EvG.bind (l3Draw_evg h0 _) (fun c1 h1=>EvG.bind (drawOps_ok h1.2 _) (fun c2 h2=>EvG.bind (EvG.of_got (l1Below_got h2.2.2 _ 10)) (fun c3 h3 => ?_))))
 have hl:=h2.1.2
 have hx:∀ x ∈ c2.1,x.length≤4:=fun x hx=>(h2.1.1 x hx).2
 refine EvG.ite (fun _=>EvG.bind (l4Draw_c h3.2.2.2 _) (fun c4 h4=>EvG.pos (by omega) (EvG.now ⟨h1.1,by simp only[List.length_append,List.length_cons,List.length_nil];omega,fun x m => ?_⟩))) (fun _=>EvG.ite (fun _=>EvG.bind (EvG.of_got (Got.now rfl)) (fun y (hy:_=y) => ?_)) (fun _=>EvG.now ⟨h1.1,by show c2.1.length≤6;omega,hx⟩))
 ·rcases List.mem_append.mp m with m | m
  ·exact hx x m
  ·rw[List.mem_singleton.mp m];simp
 ·subst hy
  refine EvG.pos (by simp only[List.length_cons,List.length_nil];omega) (EvG.now ⟨h1.1,by simp only[List.length_append,List.length_cons,List.length_nil];omega,fun x m => ?_⟩)
  rcases List.mem_append.mp m with m | m
  ·exact hx x m
  ·simp only[List.mem_cons,List.not_mem_nil,or_false] at m
   rcases m with rfl | rfl | rfl<;>simp
theorem sameInts_ev (l:List Int) (h:l.length≤1048576):Ev (fun k=>XL.f k l l) true:=by
 simp only[XL.f,if_true]
 refine look_ev l true (g:=fun k i=>XL.l0 k l l i) ?_ (fun i x hx hi hr => ?_)
 ·refine Ev.shift ?_
  simp only[XL.l0,Int.lt_irrefl,if_false]
  exact Ev.now _
 ·have c0:(0:Int)≤(i:Int):=by omega
  have c1:(i:Int)<(l.length:Int):=by omega
  refine Ev.shift ?_
  simp only[XL.l0,c0,c1,if_true,succ64 hi (by omega)]
  exact hr
theorem sameEntries_nil:Ev (fun k=>XV.f k [] []) true:=by
 simp only[XV.f,if_true]
 refine Ev.shift ?_
 simp only[XV.l0,List.length_nil,Int.natCast_zero,Int.lt_irrefl,if_false]
 exact Ev.now _
theorem resSame_nil (a:Int):Ev (fun k=>XaE.f k a [] a []) true:=by
 simp only[XaE.f,if_true]
 exact Ev.bind (ints_ev [] [] (by simp) (by simp)) ((Ev.now _).to (by simp))
theorem sameThread_new (l:List mO) (h:l.length≤1048576):Ev (fun k=>Xo.f k l 0 false [] [] l 0 false [] []) true:=by
 simp only[Xo.f,if_true,bne_self_eq_false,Bool.false_eq_true,if_false]
 have end_:Ev (fun k=>Xo.l1 k 0 l 0 false [] []) true:=by
  refine Ev.shift ?_
  simp only[Xo.l1,List.length_nil,Int.natCast_zero,Int.lt_irrefl,if_false]
  refine Ev.shift ?_
  simp only[Xo.l2,List.length_nil,Int.natCast_zero,Int.lt_irrefl,if_false]
  exact Ev.now _
 refine look_ev l true (g:=fun k i=>Xo.l0 k i l 0 false [] [] l 0 false [] []) ?_ (fun i x hx hi hr => ?_)
 ·refine Ev.shift ?_
  simp only[Xo.l0,Int.lt_irrefl,if_false]
  exact end_
 ·have c0:(0:Int)≤(i:Int):=by omega
  have c1:(i:Int)<(l.length:Int):=by omega
  refine Ev.shift ?_
  simp only[Xo.l0,c0,c1,if_true,succ64 hi (by omega),beq_self_eq_true,Bool.not_true,Bool.or_false,Bool.false_eq_true,if_false]
  exact hr
theorem sameMem_new (w:List mW) (n:Nat) (hw:w.length≤1048576) (hn:n≤1048576):Ev (fun k=>Xi.f k w (newDs n) w (newDs n)) true:=by
 simp only[Xi.f,if_true]
 have hl:(newDs n).length=n:=List.length_replicate
 have end_:Ev (fun k=>Xi.l1 k 0 w (newDs n) w (newDs n)) true:=by
  refine look_ev (newDs n) true (g:=fun k i=>Xi.l1 k i w (newDs n) w (newDs n)) ?_ (fun i x hx hi hr => ?_)
  ·refine Ev.shift ?_
   simp only[Xi.l1,Int.lt_irrefl,if_false]
   exact Ev.now _
  ·have c0:(0:Int)≤(i:Int):=by omega
   have c1:(i:Int)<((newDs n).length:Int):=by omega
   obtain rfl:x=z58:=by
    rw[newDs,List.getElem?_replicate] at hx
    split at hx
    ·exact(Option.some.inj hx).symm
    ·cases hx
   have er:rd_T58 (newDs n) (i:Int)=z58:=getD_get hx
   refine Ev.shift ?_
   simp only[Xi.l1,c0,c1,if_true,er,succ64 hi (by omega)]
   exact Ev.bind sameEntries_nil (Ev.pos rfl (Ev.bind (resSame_nil _) (Ev.pos rfl hr)))
 refine look_ev w true (g:=fun k i=>Xi.l0 k i w (newDs n) w (newDs n)) ?_ (fun i x hx hi hr => ?_)
 ·refine Ev.shift ?_
  simp only[Xi.l0,Int.lt_irrefl,if_false]
  exact end_
 ·have c0:(0:Int)≤(i:Int):=by omega
  have c1:(i:Int)<(w.length:Int):=by omega
  refine Ev.shift ?_
  simp only[Xi.l0,c0,c1,if_true,succ64 hi (by omega),beq_self_eq_true,Bool.not_true,Bool.or_false,Bool.false_eq_true,if_false]
  exact hr
theorem sameMachine_new (w:List mW) (n:Nat) (l:List (List mO)) (h:List Int) (s:Int) (hw:w.length≤1048576) (hn:n≤1048576) (hl:l.length≤1048576) (hx:∀ x ∈ l,x.length≤1048576) (hh:h.length≤1048576) :
  Ev (fun k=>Xk.f k w (newDs n) (newTs l) 0 [] [] h s w (newDs n) (newTs l) 0 [] [] h s) true:=by
 simp only[Xk.f,if_true]
 refine Ev.bind (sameMem_new w n hw hn) (Ev.pos rfl (Ev.bind (sameInts_ev [] (by simp)) (Ev.pos rfl (Ev.bind (sameInts_ev h hh) (Ev.pos rfl ?_)))))
 have hlt:(newTs l).length=l.length:=List.length_map _
 refine look_ev (newTs l) true (g:=fun k i=>Xk.l0 k i w (newDs n) (newTs l) 0 [] [] h s w (newDs n) (newTs l) 0 [] [] h s) ?_ (fun i x hx' hi hr => ?_)
 ·refine Ev.shift ?_
  simp only[Xk.l0,Int.lt_irrefl,if_false]
  refine Ev.shift ?_
  simp only[Xk.l1,List.length_nil,Int.natCast_zero,Int.lt_irrefl,if_false]
  exact Ev.now _
 ·have c0:(0:Int)≤(i:Int):=by omega
  have c1:(i:Int)<((newTs l).length:Int):=by omega
  obtain⟨y,hy,rfl⟩:=List.mem_map.mp (List.mem_of_getElem? hx')
  have er:rd_T108 (newTs l) (i:Int)=newThread y:=getD_get hx'
  refine Ev.shift ?_
  simp only[Xk.l0,c0,c1,if_true,er,succ64 hi (by omega)]
  exact Ev.bind (sameThread_new y (hx y hy)) (Ev.pos rfl hr)
theorem valueAt_new (h:List Int) (s:Int) (n i:Nat) (hi:i<(wds h s).length) (hn:n≤1048576):Ev (fun k=>XaF.f k (newWs h s) (newDs n) (i:Int)) ((wds h s)[i]):=by
 have hw:=wds_le h s
 have hl:(newWs h s).length=(wds h s).length:=List.length_map _
 have c0:(0:Int)≤(i:Int):=by omega
 have c1:(i:Int)<((newWs h s).length:Int):=by omega
 have e:decide (0≤(i:Int)∧(i:Int)≤((newWs h s).length:Int) - 1)=true:=decide_eq_true (by omega)
 have ew:wrap64 (((newWs h s).length:Int) - 1)=((newWs h s).length:Int) - 1:=w64 (by omega) (by omega)
 have er:rd_T51 (newWs h s) (i:Int)=newWord ((wds h s)[i]):=getD_get (by rw[newWs,List.getElem?_map,List.getElem?_eq_getElem hi];rfl)
 simp only[XaF.f,implFrom_eq,Option.bind_some,ew,e,if_true]
 simp only[c0,c1,if_true,er,newWord]
 exact Ev.now _
theorem meaning_new (h:List Int) (s:Int) (n:Nat) (hn:n≤1048576):Ev (fun k=>XW.f k (newWs h s) (newDs n)) (wds h s):=by
 have hw:=wds_le h s
 have hl:(newWs h s).length=(wds h s).length:=List.length_map _
 simp only[XW.f,hl]
 have key:=back (n:=(wds h s).length) (Q:=fun i=>Ev (fun k=>XW.l0 k (newWs h s) (newDs n) ((wds h s).take i) ((wds h s).length:Int) (i:Int)) (wds h s)) ?_ (fun i hi hr => ?_) 0 (Nat.zero_le _)
 ·exact key
 ·refine Ev.shift ?_
  simp only[XW.l0,Int.lt_irrefl,if_false,List.take_length]
  exact Ev.now _
 ·have c1:(i:Int)<((wds h s).length:Int):=by omega
  have c2:((wds h s).take i).length<17592186044416:=by rw[List.length_take];omega
  refine Ev.shift ?_
  simp only[XW.l0,c1,c2,if_true,succ64 hi (by omega)]
  refine Ev.bind (valueAt_new h s n i hi hn) ?_
  rw[← List.take_succ_eq_append_getElem hi]
  exact hr
section
variable (h:List Int) (s:Int) (l:List (List mO)) (hh:h.length≤1048576) (hl:l.length≤1048576) (hx:∀ x ∈ l,x.length≤1048576) (hp:machP (newWs h s) (newDs l.length) (newTs l) 0 [] [] h s)
include hh hl hx hp
theorem ok_new:Ev (fun k=>Xc.f k (newWs h s) (newDs l.length) (newTs l) 0 [] [] h s) true:=(XaW _ _ _ _ _ _ _ _ (smM_new h s l hh hl hx)).val hp
theorem replay_new:Ev (fun k=>XY.f k (newWs h s) (newDs l.length) (newTs l) 0 [] [] h s) (h,s,true):=by
 simp only[XY.f,implCopyRows_eq h s hh,Option.bind_some]
 refine Ev.bind (ok_new h s l hh hl hx hp) (Ev.pos rfl (Ev.shift ?_))
 simp only[XY.l0,List.length_nil,Int.natCast_zero,Int.lt_irrefl,if_false]
 exact Ev.now _
theorem judge_new:Ev (fun k=>XaB.f k (newWs h s) (newDs l.length) (newTs l) 0 [] [] h s) true:=by
 have hw:=wds_le h s
 have e1:Ev (fun k=>XaA.f k (newWs h s) (newDs l.length) (newTs l) 0 [] [] h s) true:=by
  simp only[XaA.f]
  exact Ev.bind (replay_new h s l hh hl hx hp) (Ev.now _)
 have e2:Ev (fun k=>XF.f k (newWs h s) (newDs l.length) (newTs l) 0 [] [] h s) true:=by
  simp only[XF.f]
  refine Ev.bind (replay_new h s l hh hl hx hp) (Ev.bind (ok_new h s l hh hl hx hp) (Ev.pos rfl (Ev.bind (meaning_new h s l.length hl) (Ev.bind (XaZ h s hh) (Ev.bind (equal_ev _ _ (by omega)) ((Ev.now _).to (by simp)))))))
 have e3:Ev (fun k=>Xr.f k (newWs h s) (newDs l.length) (newTs l) 0 [] [] h s) true:=by
  simp only[Xr.f]
  refine Ev.bind (ok_new h s l hh hl hx hp) (Ev.pos rfl (Ev.shift ?_))
  simp only[Xr.l0,List.length_nil,Int.natCast_zero,Int.lt_irrefl,if_false]
  exact Ev.now _
 simp only[XaB.f]
 exact Ev.bind e1 (Ev.pos rfl (Ev.bind e2 (Ev.pos rfl (Ev.bind e3 (Ev.now _)))))
end
theorem pureFnStarts:PureFnStarts:=by
 intro l0 h0
 have key:Ev (fun k=>X1.f k l0) true:=by
  simp only[X1.f,XaS.f,Option.bind_some,decide_eq_true_eq]
  by_cases hb:(l0.length:Int) > 1048576
  ·exact Ev.pos hb (Ev.now _)
  ·refine Ev.neg hb ?_
   obtain⟨⟨h,s,l⟩,hd,d1,d2,d3⟩:=drawNew_evg (bs:=l0) (by omega)
   have hh:h.length≤1048576:=by have:h.length≤4:=d1;omega
   have hl:l.length≤1048576:=by have:l.length≤6:=d2;omega
   have hx:∀ x ∈ l,x.length≤1048576:=fun x m=>by have:x.length≤4:=d3 x m;omega
   refine Ev.bind hd (Ev.bind (Xbd h s l hh hl hx) (Ev.bind (Xbe h s l hh hl hx) ?_))
   simp only[bne_self_eq_false,Bool.false_eq_true,if_false]
   have hlt:(newTs l).length=l.length:=List.length_map _
   have hw:=wds_le h s
   have hlw:(newWs h s).length=(wds h s).length:=List.length_map _
   by_cases a:okNew h s l
   ·rw[machNew_yes a]
    refine Ev.bind (sameMachine_new (newWs h s) l.length l h s (by omega) hl hl hx hh) (Ev.shift ?_)
    simp only[X1.j0,Bool.not_true,Bool.false_eq_true,if_false,if_true]
    refine Ev.bind (replay_new h s l hh hl hx a.2) (Ev.bind (ok_new h s l hh hl hx a.2) (Ev.pos rfl (Ev.bind (judge_new h s l hh hl hx a.2) (Ev.pos rfl (Ev.pos rfl (Ev.bind (sameInts_ev h hh) (Ev.pos rfl ?_)))))))
    exact(Ev.now _).to (by rw[hlt];simp)
   ·rw[machNew_no a]
    refine Ev.bind (sameMachine_new [] 0 [] [] 0 (by simp) (by omega) (by simp) (fun x m=>by cases m) (by simp)) (Ev.shift ?_)
    simp only[X1.j0,Bool.not_true,Bool.false_eq_true,if_false]
    exact(Ev.now _).to (by simp)
 obtain⟨k,hk⟩:=key
 exact⟨k,hk k (Nat.le_refl _)⟩
end Go.Proofs.YthejoblnfpaojaaGreat.P
