/- The law FnExactJudgeWords holds: for every input the call returns true, and each argument reads afterwards as_ it read before. Conditions: none. Written by a program of this session. -/
import Derived.Test.YtmljebgideecjaaGreatRows
import Derived.WalkKit
import Derived.ProofKit
import Derived.OpenShut
import Derived.ShutString
import Derived.ChangeOld
import Derived.Below
import Derived.SizedLaws
import Derived.Carry
import Derived.Test.YtmljebgideecjaaGreatP2kFnExactJudgeWords43
set_option linter.unusedSimpArgs false
set_option linter.unusedVariables false
set_option maxHeartbeats 8000000
set_option maxRecDepth 100000
namespace Go.Proofs.YtmljebgideecjaaGreat.P2
open Go.RowKit Go.Proofs.YtmljebgideecjaaGreatW.PrintWords Go.Proofs.YtmljebgideecjaaGreatW.PrintLast Go.Proofs.YtmljebgideecjaaGreatZ
theorem machine_law (x:S32) (hx:wf32 x) (sp im:Nat→List mW→List mD→List mT→Int→List mC→List Int→List Int→Int→Option Bool)
  (hb:∀ (w:List mW) (d:List mD) (t:List mT) (tm:Int) (c:List mC) (o q:List Int) (s:Int),smM w d t c o q→smC c→okWs w→okDs d→∃ r:Bool,Ev (fun k=>sp k w d t tm c o q s) r∧Ev (fun k=>im k w d t tm c o q s) r) :
  Ev (fun k=>(Xat.f k x.f0.f0 x.f0.f1 x.f1 x.f2 x.f3 x.f4 x.f5.f0 x.f5.f1 1048576).bind fun t102=>(if t102<0 then (some true) else ((Xaf.f k x.f0.f0 x.f0.f1 x.f1 x.f2 x.f3 x.f4 x.f5.f0 x.f5.f1).bind fun bt103=>((sp k bt103.1 bt103.2.1 bt103.2.2.1 bt103.2.2.2.1 bt103.2.2.2.2.1 bt103.2.2.2.2.2.1 bt103.2.2.2.2.2.2.1 bt103.2.2.2.2.2.2.2).bind fun t123=>((Xaf.f k x.f0.f0 x.f0.f1 x.f1 x.f2 x.f3 x.f4 x.f5.f0 x.f5.f1).bind fun bt124=>((im k bt124.1 bt124.2.1 bt124.2.2.1 bt124.2.2.2.1 bt124.2.2.2.2.1 bt124.2.2.2.2.2.1 bt124.2.2.2.2.2.2.1 bt124.2.2.2.2.2.2.2).bind fun t145=>(if (t145 != t123)=true then (some false) else ((Xaf.f k x.f0.f0 x.f0.f1 x.f1 x.f2 x.f3 x.f4 x.f5.f0 x.f5.f1).bind fun bt146=>((Xau.f k bt124.1 bt124.2.1 bt124.2.2.1 bt124.2.2.2.1 bt124.2.2.2.2.1 bt124.2.2.2.2.2.1 bt124.2.2.2.2.2.2.1 bt124.2.2.2.2.2.2.2 bt146.1 bt146.2.1 bt146.2.2.1 bt146.2.2.2.1 bt146.2.2.2.2.1 bt146.2.2.2.2.2.1 bt146.2.2.2.2.2.2.1 bt146.2.2.2.2.2.2.2).bind fun t166=>(if t166=true then (some true) else (some false))))))))))) true:=by
 obtain⟨⟨⟨w1,w2⟩,⟨d1,d2⟩⟩,⟨t1,t2⟩,_,⟨c1,c2⟩,⟨p1,p2⟩,⟨⟨q1,q2⟩,_⟩⟩:=hx
 have hd:wfDs x.f0.f1:=⟨d1,fun y hy=>⟨(d2 y hy).2.2.1.1,(d2 y hy).2.2.2.2.1⟩⟩
 have ht:wfTs x.f1:=⟨t1,fun y hy=>⟨(t2 y hy).1.1,(t2 y hy).2.2.2.1.1,(t2 y hy).2.2.2.2.1⟩⟩
 have hc:wfCs x.f3:=⟨c1,fun y hy=>(c2 y hy).2.2.2.2.2.2.1⟩
 refine Ev.bind (szMachine_ev x.f0.f0 x.f0.f1 x.f1 x.f2 x.f3 x.f4 x.f5.f0 x.f5.f1 1048576 (by decide) (by decide) w1 hd ht hc p1 q1) ?_
 by_cases h:wtMem x.f0.f0 x.f0.f1+wtTail x.f1 x.f3 x.f4 x.f5.f0≤1048576
 ·have n1:=ctl_nonneg wtDesc_nn x.f0.f1
  have n2:=ctl_nonneg wtThread_nn x.f1
  have n3:=ctl_nonneg wtCall_nn x.f3
  have hW:=h
  unfold wtMem wtTail at hW
  have hto:=toMachine_ev x.f0.f0 x.f0.f1 x.f1 x.f2 x.f3 x.f4 x.f5.f0 x.f5.f1 h
  have heq:=eqMachine_ev x.f0.f0 x.f0.f1 x.f1 x.f2 x.f3 x.f4 x.f5.f0 x.f5.f1 h
  have ow:okWs (x.f0.f0.map cWord):=fun y hy=>by
   obtain⟨a,ha,rfl⟩:=List.mem_map.mp hy
   exact i64_wf (w2 a ha).1
  have od:okDs (x.f0.f1.map cDesc):=fun y hy=>by
   obtain⟨a,ha,rfl⟩:=List.mem_map.mp hy
   have hm:=Int.le_trans (ctl_mem wtDesc_nn ha) (show ctl wtDesc x.f0.f1≤1048576 by omega)
   refine⟨(smDesc_of a hm).1,fun e he => ?_⟩
   obtain⟨b,hb,rfl⟩:=List.mem_map.mp he
   have hw:=(d2 a ha).2.2.1.2 b hb
   exact⟨i64_wf hw.2.1,i64_wf hw.2.2⟩
  have st:∀ y ∈ x.f1.map cThread,smT y:=fun y hy=>by
   obtain⟨a,ha,rfl⟩:=List.mem_map.mp hy
   exact smThread_of a (Int.le_trans (ctl_mem wtThread_nn ha) (show ctl wtThread x.f1≤1048576 by omega))
  have sc:smC (x.f3.map cCall):=fun y hy=>by
   obtain⟨a,ha,rfl⟩:=List.mem_map.mp hy
   exact smCall_of a (Int.le_trans (ctl_mem wtCall_nn ha) (show ctl wtCall x.f3≤1048576 by omega))
  have sM:smM (x.f0.f0.map cWord) (x.f0.f1.map cDesc) (x.f1.map cThread) (x.f3.map cCall) x.f4 x.f5.f0 :=
   ⟨by rw[List.length_map];omega,by rw[List.length_map];omega,fun y hy=>(od y hy).1,by rw[List.length_map];omega,st,by rw[List.length_map];omega,by omega,by omega⟩
  obtain⟨r,g1,g2⟩:=hb (x.f0.f0.map cWord) (x.f0.f1.map cDesc) (x.f1.map cThread) x.f2 (x.f3.map cCall) x.f4 x.f5.f0 x.f5.f1 sM sc ow od
  rw[lf_pos h]
  refine Ev.neg (by omega) ?_
  refine Ev.bind hto (Ev.bind g1 (Ev.bind hto (Ev.bind g2 ?_)))
  refine Ev.neg (by simp) (Ev.bind hto (Ev.bind heq ?_))
  exact Ev.pos rfl (Ev.now _)
 ·rw[lf_neg h]
  exact Ev.pos (by decide) (Ev.now _)
theorem words_both (w:List mW) (d:List mD) (t:List mT) (tm:Int) (c:List mC) (o q:List Int) (s:Int) (h:smM w d t c o q) (hc:smC c) (ow:okWs w) (od:okDs d):∃ r:Bool,Ev (fun k=>XR.f k w d t tm c o q s) r∧Ev (fun k=>XI.f k w d t tm c o q s) r:=by
 obtain⟨r,r0,r1,r2⟩:=replay_both w d t tm c o q s h hc
 have h1:=XbA w d t tm c o q s h
 have h2:=XbB w d t tm c o q s h
 obtain⟨m,m0,_,m1,m2⟩:=meaning_both w d h.1 h.2.1 ow od
 have hw:=h.1
 have e1:=XbM r.1 r.2.1 r0
 have e2:=XbN r.1 r.2.1 r0
 have e3:(wds r.1 r.2.1).length≤1048576:=by
  rcases wds_len r.1 r.2.1 with e | e
  ·omega
  ·rw[e];exact Nat.zero_le _
 simp only[XR.f,XI.f]
 by_cases hp:machP w d t tm c o q s
 ·refine⟨decide (m=wds r.1 r.2.1),Ev.bind (h1.val hp) (Ev.pos rfl (Ev.bind r1 (Ev.bind m1 (Ev.bind e1 (Ev.bind (ints_ev m _ (by omega) e3) (Ev.now _)))))),?_⟩
  exact Ev.bind r2 (Ev.bind (h2.val hp) (Ev.pos rfl (Ev.bind m2 (Ev.bind e2 (Ev.bind (equal_ev m _ (by omega)) (Ev.now _))))))
 ·exact⟨false,Ev.bind (h1.nval hp) (Ev.neg (by decide) (Ev.now _)),Ev.bind r2 (Ev.bind (h2.nval hp) (Ev.neg (by decide) (Ev.now _)))⟩
theorem pureFnExactJudgeWords:PureFnExactJudgeWords:=by
 intro x hx
 refine Ev.rounds ?_
 simp only[Xaq.f]
 exact machine_law x hx (fun k=>XR.f k) (fun k=>XI.f k) (fun w d t tm c o q s h hc ow od=>words_both w d t tm c o q s h hc ow od)
end Go.Proofs.YtmljebgideecjaaGreat.P2
namespace Go.Proofs.YtmljebgideecjaaGreat.fnExactJudgeWords
open Go.ChangeShapes Go.WideShapes Go.ChangeAt Go.RowKit Go.Proofs.YtmljebgideecjaaGreatW.PrintWords Go.Proofs.YtmljebgideecjaaGreatW.PrintLast Go.Proofs.YtmljebgideecjaaGreatZ Go.Proofs.YtmljebgideecjaaGreat.P2
open Go.ChangeMaps (open_string shut_string)
theorem own : ownKnob Tryz.prog.godebug = none := by kernel_rfl
theorem laidOut : laidOutB Tryz.prog = true := by kernel_rfl
theorem lifted (os : Os) (started : os.Started) (H : Type) (enc : TypeId × Value → H) :
  ReturnsInHanded {} Tryz.checked os 8 .any (Rows.fnExactJudgeWordsSpec.pre6 enc Tryz.prog Tryz.f8 Rows.fnExactJudgeWordsRow.domain false) (Rows.fnExactJudgeWordsSpec.post enc Tryz.prog Tryz.f8 false true false false) := by
 refine returnsInHanded_of_change_sized (C := Tryz.checked) own started (by kernel_rfl) Tryz.func8
  (ChangeSpec.witness6 (enc := enc) (C := Tryz.checked) false ⟨#[], #[.agg #[.slice none 0 0, .slice none 0 0, .slice none 0 0, .int .i64 0, .slice none 0 0, .slice none 0 0, .slice none 0 0, .int .i64 0]], []⟩ 8 (by kernel_rfl) (by kernel_rfl) (by kernel_rfl) (by kernel_rfl)) ?_
 intro W base args ds gs before hval0 hW hcnd hsz0 _
 have hval : ∀ (j : Nat) t v, Tryz.f8.params[j]? = some t → args[j]? = some v → Value.okWide Tryz.prog W .any base t v := hval0
 have hW' := hW
 obtain ⟨p, q, hA0, hV, rfl, hfz, hnd⟩ := hW
 have hA : DataW.TrodAll enc Tryz.prog W 0 (fun _ => true) true Tryz.f8.params.toList args.toList ds p := hA0
 rw [Tryz.params8] at hA hval
 obtain ⟨v0, vs0, d0, ds0, p0, q0, hargs, rfl, rfl, h0, r0⟩ := trodAll_cons hA
 obtain ⟨rfl, rfl, rfl⟩ := trodAll_nil r0
 obtain rfl : args = #[v0] := by cases args; simp_all
 obtain ⟨rfl, rfl⟩ := trodVars_none hV
 have k0_ := h0
 have lt0 : ∀ x ∈ p0, x.block < W.heap.size := by obtain ⟨m, hm⟩ := k0_; exact DataW.trod_lt m _ _ _ hm
 obtain ⟨cs0, rfl⟩ := okWide_agg Tryz.underlying32 (hval 0 32 v0 rfl rfl)
 obtain ⟨x0, K0, wf0_⟩ := Opens.param op32 h0
 replace K0 : k32.K W x0 cs0.toList := K0
 obtain ⟨A0_0, c0_0, A0_1, c0_1, A0_2, c0_2, A0_4, c0_4, A0_5, c0_5, A0_6, c0_6, e0, l0_0, g0_0, l0_1, g0_1, l0_2, g0_2, l0_4, g0_4, l0_5, g0_5, l0_6, g0_6⟩ := k32_open K0
 obtain rfl := Array.ext' (ys := ⟨_⟩) e0
 obtain ⟨k, hk⟩ := pureFnExactJudgeWords x0 wf0_
 clear hA0 hval0 hsz0
 refine (Xaq.calls k _ _ x0.f0.f0 _ _ x0.f0.f1 _ _ x0.f1 x0.f2 _ _ x0.f3 _ _ x0.f4 _ _ x0.f5.f0 x0.f5.f1 true W g0_0 l0_0 g0_1 l0_1 g0_2 l0_2 g0_4 l0_4 g0_5 l0_5 g0_6 l0_6 hk).mono fun e W' hh => ?_
 obtain ⟨he, bel0⟩ := hh
 have bel : Below W.heap.size W W' := bel0
 subst he
 exact ⟨_, rfl, _, _, _, [], _, [], hW', trodAll_mk1 (shut_bool Tryz.underlying4 _), (trodAll_cons_mk (Below.trod laidOut (by kernel_rfl) (of_decide_eq_true (by kernel_rfl)) k0_ bel lt0) trodAll_mk0), rfl, bel.frame _, fun h => by cases h⟩
theorem over : Rows.fnExactJudgeWordsRow.holds Tryz.pinned (OpenSpec.ofChange Rows.fnExactJudgeWordsSpec) :=
 OpenClaim.holds_of_wide 8 Tryz.f8 rfl rfl rfl rfl rfl rfl rfl ⟨rfl, rfl, rfl, rfl, rfl⟩ rfl rfl rfl rfl rfl (by kernel_rfl) Tryz.func8 (by kernel_rfl)
  (of_decide_eq_true (by kernel_rfl)) (by unfold Func.isWrapper; first | (rw [if_pos (by decide +kernel)]; kernel_rfl) | (rw [if_neg (by decide +kernel)]; exact ⟨rfl, rfl⟩))
  (fun os started H enc _ => lifted os started H enc)
theorem proved : Rows.FnExactJudgeWordsSaid := over
#print axioms proved
end Go.Proofs.YtmljebgideecjaaGreat.fnExactJudgeWords
namespace Go.Proofs.YtmljebgideecjaaGreat
theorem fnExactJudgeWords_holds : Rows.FnExactJudgeWordsSaid := fnExactJudgeWords.proved
end Go.Proofs.YtmljebgideecjaaGreat
