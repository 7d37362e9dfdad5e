/- The law FnExactTold holds: for every input the call returns true, and each argument reads afterwards as_ it read before. Conditions: none. Written by a program of this session. -/
import Derived.Test.YteamagejhbkhnaaRows
import Derived.WalkKit
import Derived.ProofKit
import Derived.OpenShut
import Derived.ShutString
import Derived.ChangeOld
import Derived.Below
import Derived.SizedLaws
import Derived.Carry
import Derived.Test.YteamagejhbkhnaaPkFnExactTold28
set_option linter.unusedSimpArgs false
set_option linter.unusedVariables false
set_option maxHeartbeats 8000000
set_option maxRecDepth 100000
namespace Go.Proofs.Yteamagejhbkhnaa.P
open Go.RowKit Go.Proofs.YteamagejhbkhnaaW.PrintWords Go.Proofs.YteamagejhbkhnaaW.PrintLast Go.Proofs.YteamagejhbkhnaaZ
theorem heldIntS_ev' (l:List Int) (m:Int) (h0:0≤m) (hm:m+l.length≤9223372036854775807):Ev (fun k=>XF.f k (mkl (fun _=>1) mkInt l m) m) (m+l.length):=by
 have h:=held_ev (fun _=>1) mkInt (fun _=>by decide) 9223372036854775807 (g:=fun k l m i=>XF.l0 k l m i) l.length ?_ ?_ l m rfl h0 (by rw[ctl_const'];omega)
 ·rw[ctl_const',Int.one_mul] at h
  simp only[XF.f]
  exact h
 ·intro s t hs
  refine Ev.shift ?_
  simp only[XF.l0,Int.lt_irrefl,if_false]
  exact Ev.now _
 ·intro s t i x r hs hx hi h2 h3 h
  refine Ev.shift ?_
  have d1:(i:Int)<(s.length:Int):=by omega
  have d2:(0:Int)≤(i:Int):=by omega
  have d3:rd s (i:Int)=t:=rd_get hx
  simp only[XF.l0,d1,d2,d3,if_true,succ64 hi (by omega),w64 (n:=t+1) (by omega) (by omega)]
  exact h
theorem heldCallS_ev' (l:List S59) (m:Int) (h0:0≤m) (hl:l.length≤1048576) (hm:m+ctl ctC l≤9223372036854775800):Ev (fun k=>Xn.f k (mkl ctC mkC l m) m) (m+ctl ctC l):=by
 have h:=held_ev ctC mkC (fun _=>by simp only[ctC];omega) 9223372036854775800 (g:=fun k l m i=>Xn.l0 k l m i) l.length ?_ ?_ l m rfl h0 hm
 ·simp only[Xn.f]
  exact h
 ·intro s t hs
  refine Ev.shift ?_
  simp only[Xn.l0,Int.lt_irrefl,if_false]
  exact Ev.now _
 ·intro s t i x r hs hx hi h2 h3 h
  refine Ev.shift ?_
  simp only[ctC] at h3 h
  have d1:(i:Int)<(s.length:Int):=by omega
  have d2:(0:Int)≤(i:Int):=by omega
  have d3:rd_T59 s (i:Int)=mkC x t:=getD_get hx
  have e1:wrap64 (t+1)=t+1:=by rw[w64 (by omega) (by omega)]
  have e2:wrap64 (t+1+1)=t+2:=by rw[w64 (by omega) (by omega)];omega
  have e3:wrap64 (t+2+1)=t+3:=by rw[w64 (by omega) (by omega)];omega
  have e4:wrap64 (t+3+1)=t+4:=by rw[w64 (by omega) (by omega)];omega
  have e5:wrap64 (t+4+1)=t+5:=by rw[w64 (by omega) (by omega)];omega
  have e6:wrap64 (t+5+1)=t+6:=by rw[w64 (by omega) (by omega)];omega
  have e7:wrap64 (t+6+1)=t+7:=by rw[w64 (by omega) (by omega)];omega
  have e8:wrap64 (t+7+1)=t+8:=by rw[w64 (by omega) (by omega)];omega
  have e9:t+8+(x.f5.f1.length:Int)=t+(8+(x.f5.f1.length:Int)):=by omega
  simp only[Xn.l0,d1,d2,d3,mkC,if_true,Int.toNat_natCast,succ64 hi (by omega),e1,e2,e3,e4,e5,e6,e7,e8]
  refine Ev.bind (heldIntS_ev' x.f5.f1 (t+8) (by omega) (by omega)) ?_
  refine Ev.neg (by omega) ?_
  simp only[e9]
  exact h
theorem ev_rounds' {α:Type} {g:Nat→Option α} {r:α} (h:Ev g r):∃ k,g k=some r:=by
 obtain⟨K,h⟩:=h
 exact⟨K,h K (Nat.le_refl _)⟩
theorem pureFnExactTold:PureFnExactTold:=by
 intro x hx
 refine ev_rounds' ?_
 obtain⟨⟨⟨w1,w2⟩,⟨d1,d2⟩⟩,⟨t1,t2⟩,_,⟨c1,c2⟩,⟨p1,p2⟩,⟨⟨q1,q2⟩,_⟩⟩:=hx
 have hd:wfDs x.f0.f1:=⟨d1,fun y hy=>⟨(d2 y hy).2.2.1.1,(d2 y hy).2.2.2.2.1⟩⟩
 have ht:wfTs x.f1:=⟨t1,fun y hy=>⟨(t2 y hy).1.1,(t2 y hy).2.2.2.1.1,(t2 y hy).2.2.2.2.1⟩⟩
 have hc:wfCs x.f3:=⟨c1,fun y hy=>(c2 y hy).2.2.2.2.2.2.1⟩
 simp only[XL.f]
 refine Ev.bind (szMachine_ev x.f0.f0 x.f0.f1 x.f1 x.f2 x.f3 x.f4 x.f5.f0 x.f5.f1 1048576 (by decide) (by decide) w1 hd ht hc p1 q1) ?_
 by_cases h:wtMem x.f0.f0 x.f0.f1+wtTail x.f1 x.f3 x.f4 x.f5.f0≤1048576
 ·have n1:=ctl_nonneg wtDesc_nn x.f0.f1
  have n2:=ctl_nonneg wtThread_nn x.f1
  have n3:=ctl_nonneg wtCall_nn x.f3
  have hW:=h
  unfold wtMem wtTail at hW
  have hto:=toMachine_ev x.f0.f0 x.f0.f1 x.f1 x.f2 x.f3 x.f4 x.f5.f0 x.f5.f1 h
  have heq:=eqMachine_ev x.f0.f0 x.f0.f1 x.f1 x.f2 x.f3 x.f4 x.f5.f0 x.f5.f1 h
  have sd:∀ y ∈ x.f0.f1.map cDesc,smDesc y:=fun y hy=>by
   obtain⟨a,ha,rfl⟩:=List.mem_map.mp hy
   exact smDesc_of a (Int.le_trans (ctl_mem wtDesc_nn ha) (show ctl wtDesc x.f0.f1≤1048576 by omega))
  have st:∀ y ∈ x.f1.map cThread,smThread y:=fun y hy=>by
   obtain⟨a,ha,rfl⟩:=List.mem_map.mp hy
   exact smThread_of a (Int.le_trans (ctl_mem wtThread_nn ha) (show ctl wtThread x.f1≤1048576 by omega))
  have sc:∀ y ∈ x.f3.map cCall,smCall y:=fun y hy=>by
   obtain⟨a,ha,rfl⟩:=List.mem_map.mp hy
   exact smCall_of a (Int.le_trans (ctl_mem wtCall_nn ha) (show ctl wtCall x.f3≤1048576 by omega))
  have hlc:(x.f3.map cCall).length≤1048576:=by rw[List.length_map];omega
  have hcs:∀ y ∈ x.f3.map cCall,y.f5.f1.length≤1048576:=fun y hy=>sc y hy
  have g1:=specTold_ev (x.f0.f0.map cWord) (x.f0.f1.map cDesc) (x.f1.map cThread) x.f2 (x.f3.map cCall) x.f4 x.f5.f0 x.f5.f1 hlc hcs
  have g2:=implTold_ev (x.f0.f0.map cWord) (x.f0.f1.map cDesc) (x.f1.map cThread) x.f2 (x.f3.map cCall) x.f4 x.f5.f0 x.f5.f1 hlc hcs
  obtain⟨v,v0,gm⟩:=markMachine_ev (x.f0.f0.map cWord) (x.f0.f1.map cDesc) (x.f1.map cThread) x.f2 (x.f3.map cCall) x.f4 x.f5.f0 x.f5.f1 (by rw[List.length_map];omega) (by rw[List.length_map];omega) (fun y hy=>sd y hy) (by rw[List.length_map];omega) (fun y hy=>st y hy) hlc hcs (by omega) (by omega)
  have hfl:((x.f3.map cCall).filter soC).length≤1048576:=Nat.le_trans (List.length_filter_le _ _) hlc
  have hfs:∀ y ∈ (x.f3.map cCall).filter soC,y.f5.f1.length≤1048576:=fun y hy=>hcs y (List.mem_filter.mp hy).1
  have ge:=eqCallS_ev ((x.f3.map cCall).filter soC) (by omega) (fun y hy=>sc y (List.mem_filter.mp hy).1)
  have b3:=ctl_le (ct:=ctC) (C:=5000000) ((x.f3.map cCall).filter soC) (fun y hy=>by have:=hfs y hy;simp only[ctC];omega)
  have b4:=ctl_nonneg (ct:=ctC) (fun x=>by simp only[ctC];omega) ((x.f3.map cCall).filter soC)
  have gk:=markCallS_ev' ((x.f3.map cCall).filter soC) 1 (by decide) hfl (by omega)
  have gh:=heldCallS_ev' ((x.f3.map cCall).filter soC) 1 (by decide) hfl (by omega)
  rw[lf_pos h]
  refine Ev.neg (by omega) ?_
  refine Ev.bind hto (Ev.bind g1 (Ev.bind hto (Ev.bind g2 (Ev.bind ge (Ev.pos rfl (Ev.bind hto (Ev.bind heq (Ev.pos rfl (Ev.bind gm (Ev.neg (by omega) (Ev.bind ge (Ev.pos rfl (Ev.bind gk ?_)))))))))))))
  simp only[XL.g]
  refine Ev.bind gh (Ev.neg (by omega) (Ev.pos rfl (Ev.bind hto (Ev.bind g2 (Ev.bind ge (Ev.pos rfl (Ev.bind gh (Ev.neg (by omega) (Ev.pos rfl (Ev.now _))))))))))
 ·rw[lf_neg h]
  exact Ev.pos (by decide) (Ev.now _)
end Go.Proofs.Yteamagejhbkhnaa.P
namespace Go.Proofs.Yteamagejhbkhnaa.fnExactTold
open Go.ChangeShapes Go.WideShapes Go.ChangeAt Go.RowKit Go.Proofs.YteamagejhbkhnaaW.PrintWords Go.Proofs.YteamagejhbkhnaaW.PrintLast Go.Proofs.YteamagejhbkhnaaZ Go.Proofs.Yteamagejhbkhnaa.P
open Go.ChangeMaps (open_string shut_string)
theorem own : ownKnob Try.prog.godebug = none := by kernel_rfl
theorem laidOut : laidOutB Try.prog = true := by kernel_rfl
theorem lifted (os : Os) (started : os.Started) (H : Type) (enc : TypeId × Value → H) :
  ReturnsInHanded {} Try.checked os 12 .any (Rows.fnExactToldSpec.pre6 enc Try.prog Try.f12 Rows.fnExactToldRow.domain false) (Rows.fnExactToldSpec.post enc Try.prog Try.f12 false true false false) := by
 refine returnsInHanded_of_change_sized (C := Try.checked) own started (by kernel_rfl) Try.func12
  (ChangeSpec.witness6 (enc := enc) (C := Try.checked) false ⟨#[], #[.agg #[.slice none 0 0, .slice none 0 0, .slice none 0 0, .int .i64 0, .slice none 0 0, .slice none 0 0, .slice none 0 0, .int .i64 0]], []⟩ 8 (by kernel_rfl) (by kernel_rfl) (by kernel_rfl) (by kernel_rfl)) ?_
 intro W base args ds gs before hval0 hW hcnd hsz0 _
 have hval : ∀ (j : Nat) t v, Try.f12.params[j]? = some t → args[j]? = some v → Value.okWide Try.prog W .any base t v := hval0
 have hW' := hW
 obtain ⟨p, q, hA0, hV, rfl, hfz, hnd⟩ := hW
 have hA : DataW.TrodAll enc Try.prog W 0 (fun _ => true) true Try.f12.params.toList args.toList ds p := hA0
 rw [Try.params12] at hA hval
 obtain ⟨v0, vs0, d0, ds0, p0, q0, hargs, rfl, rfl, h0, r0⟩ := trodAll_cons hA
 obtain ⟨rfl, rfl, rfl⟩ := trodAll_nil r0
 obtain rfl : args = #[v0] := by cases args; simp_all
 obtain ⟨rfl, rfl⟩ := trodVars_none hV
 have k0_ := h0
 have lt0 : ∀ x ∈ p0, x.block < W.heap.size := by obtain ⟨m, hm⟩ := k0_; exact DataW.trod_lt m _ _ _ hm
 obtain ⟨cs0, rfl⟩ := okWide_agg Try.underlying78 (hval 0 78 v0 rfl rfl)
 obtain ⟨x0, K0, wf0_⟩ := Opens.param op78 h0
 replace K0 : k78.K W x0 cs0.toList := K0
 obtain ⟨A0_0, c0_0, A0_1, c0_1, A0_2, c0_2, A0_4, c0_4, A0_5, c0_5, A0_6, c0_6, e0, l0_0, g0_0, l0_1, g0_1, l0_2, g0_2, l0_4, g0_4, l0_5, g0_5, l0_6, g0_6⟩ := k78_open K0
 obtain rfl := Array.ext' (ys := ⟨_⟩) e0
 obtain ⟨k, hk⟩ := pureFnExactTold x0 wf0_
 clear hA0 hval0 hsz0
 refine (XL.calls k _ _ x0.f0.f0 _ _ x0.f0.f1 _ _ x0.f1 x0.f2 _ _ x0.f3 _ _ x0.f4 _ _ x0.f5.f0 x0.f5.f1 true W g0_0 l0_0 g0_1 l0_1 g0_2 l0_2 g0_4 l0_4 g0_5 l0_5 g0_6 l0_6 hk).mono fun e W' hh => ?_
 obtain ⟨he, bel0⟩ := hh
 have bel : Below W.heap.size W W' := bel0
 subst he
 exact ⟨_, rfl, _, _, _, [], _, [], hW', trodAll_mk1 (shut_bool Try.underlying4 _), (trodAll_cons_mk (Below.trod laidOut (by kernel_rfl) (of_decide_eq_true (by kernel_rfl)) k0_ bel lt0) trodAll_mk0), rfl, bel.frame _, fun h => by cases h⟩
theorem over : Rows.fnExactToldRow.holds Try.pinned (OpenSpec.ofChange Rows.fnExactToldSpec) :=
 OpenClaim.holds_of_wide 12 Try.f12 rfl rfl rfl rfl rfl rfl rfl ⟨rfl, rfl, rfl, rfl, rfl⟩ rfl rfl rfl rfl rfl (by kernel_rfl) Try.func12 (by kernel_rfl)
  (of_decide_eq_true (by kernel_rfl)) (by unfold Func.isWrapper; first | (rw [if_pos (by decide +kernel)]; kernel_rfl) | (rw [if_neg (by decide +kernel)]; exact ⟨rfl, rfl⟩))
  (fun os started H enc _ => lifted os started H enc)
theorem proved : Rows.FnExactToldSaid := over
#print axioms proved
end Go.Proofs.Yteamagejhbkhnaa.fnExactTold
namespace Go.Proofs.Yteamagejhbkhnaa
theorem fnExactTold_holds : Rows.FnExactToldSaid := fnExactTold.proved
end Go.Proofs.Yteamagejhbkhnaa
