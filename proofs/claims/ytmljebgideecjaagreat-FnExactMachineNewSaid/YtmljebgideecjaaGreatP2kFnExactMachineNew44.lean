/- The law FnExactMachineNew holds: for every input the call returns true, and each argument reads afterwards as_ it read before. Conditions: none. Written by a program of this session. -/
import Derived.Test.YtmljebgideecjaaGreatRows
import Derived.WalkKit
import Derived.ProofKit
import Derived.OpenShut
import Derived.ShutString
import Derived.ChangeOld
import Derived.Below
import Derived.SizedLaws
import Derived.Carry
import Derived.Test.YtmljebgideecjaaGreatP2kFnExactMachineNew43
set_option linter.unusedSimpArgs false
set_option linter.unusedVariables false
set_option maxHeartbeats 8000000
set_option maxRecDepth 100000
namespace Go.Proofs.YtmljebgideecjaaGreat.fnExactMachineNew
open Go.ChangeShapes Go.WideShapes Go.ChangeAt Go.RowKit Go.Proofs.YtmljebgideecjaaGreatW.PrintWords Go.Proofs.YtmljebgideecjaaGreatW.PrintLast Go.Proofs.YtmljebgideecjaaGreatZ Go.Proofs.YtmljebgideecjaaGreat.P2
open Go.ChangeMaps (open_string shut_string)
theorem own : ownKnob Tryz.prog.godebug = none := by kernel_rfl
theorem laidOut : laidOutB Tryz.prog = true := by kernel_rfl
theorem lifted (os : Os) (started : os.Started) (H : Type) (enc : TypeId × Value → H) :
  ReturnsInHanded {} Tryz.checked os 5 .any (Rows.fnExactMachineNewSpec.pre6 enc Tryz.prog Tryz.f5 Rows.fnExactMachineNewRow.domain false) (Rows.fnExactMachineNewSpec.post enc Tryz.prog Tryz.f5 false true false false) := by
 refine returnsInHanded_of_change_sized (C := Tryz.checked) own started (by kernel_rfl) Tryz.func5
  (ChangeSpec.witness6 (enc := enc) (C := Tryz.checked) false ⟨#[], #[.agg #[.slice none 0 0, .int .i64 0], .slice none 0 0], []⟩ 8 (by kernel_rfl) (by kernel_rfl) (by kernel_rfl) (by kernel_rfl)) ?_
 intro W base args ds gs before hval0 hW hcnd hsz0 _
 have hval : ∀ (j : Nat) t v, Tryz.f5.params[j]? = some t → args[j]? = some v → Value.okWide Tryz.prog W .any base t v := hval0
 have hW' := hW
 obtain ⟨p, q, hA0, hV, rfl, hfz, hnd⟩ := hW
 have hA : DataW.TrodAll enc Tryz.prog W 0 (fun _ => true) true Tryz.f5.params.toList args.toList ds p := hA0
 rw [Tryz.params5] at hA hval
 obtain ⟨v0, vs0, d0, ds0, p0, q0, hargs, rfl, rfl, h0, r0⟩ := trodAll_cons hA
 obtain ⟨v1, vs1, d1, ds1, p1, q1, rfl, rfl, rfl, h1, r1⟩ := trodAll_cons r0
 obtain ⟨rfl, rfl, rfl⟩ := trodAll_nil r1
 obtain rfl : args = #[v0, v1] := by cases args; simp_all
 obtain ⟨rfl, rfl⟩ := trodVars_none hV
 have k0_ := h0
 have lt0 : ∀ x ∈ p0, x.block < W.heap.size := by obtain ⟨m, hm⟩ := k0_; exact DataW.trod_lt m _ _ _ hm
 obtain ⟨cs0, rfl⟩ := okWide_agg Tryz.underlying30 (hval 0 30 v0 rfl rfl)
 obtain ⟨x0, K0, wf0_⟩ := Opens.param op30 h0
 replace K0 : k30.K W x0 cs0.toList := K0
 obtain ⟨A0_0, c0_0, e0, l0_0, g0_0⟩ := k30_open K0
 obtain rfl := Array.ext' (ys := ⟨_⟩) e0
 have k1_ := h1
 have lt1 : ∀ x ∈ p1, x.block < W.heap.size := by obtain ⟨m, hm⟩ := k1_; exact DataW.trod_lt m _ _ _ hm
 obtain ⟨a1_, len1_, cap1_, rfl⟩ := okWide_slice Tryz.underlying48 (hval 1 48 v1 rfl rfl)
 obtain ⟨x1, K1, wf1_⟩ := Opens.param (Opens.slice 89 Tryz.underlying48 (by kernel_rfl) (Opens.slice 116 Tryz.underlying89 (by kernel_rfl) (op116))) h1
 obtain ⟨A1, c1, e1, l1, g1⟩ := K1
 simp [Value.cells] at e1
 obtain ⟨rfl, rfl, rfl⟩ := e1
 obtain ⟨k, hk⟩ := pureFnExactMachineNew x0 x1 wf0_ wf1_
 clear hA0 hval0 hsz0
 refine (XU.calls k _ _ x0.f0 x0.f1 _ _ x1 true W g0_0 l0_0 g1 l1 hk).mono fun e W' hh => ?_
 obtain ⟨he, bel0⟩ := hh
 have bel : Below W.heap.size W W' := bel0
 subst he
 exact ⟨_, rfl, _, _, _, [], _, [], hW', trodAll_mk1 (shut_bool Tryz.underlying4 _), (trodAll_cons_mk (Below.trod laidOut (by kernel_rfl) (of_decide_eq_true (by kernel_rfl)) k0_ bel lt0) (trodAll_cons_mk (Below.trod laidOut (by kernel_rfl) (of_decide_eq_true (by kernel_rfl)) k1_ bel lt1) trodAll_mk0)), rfl, bel.frame _, fun h => by cases h⟩
theorem over : Rows.fnExactMachineNewRow.holds Tryz.pinned (OpenSpec.ofChange Rows.fnExactMachineNewSpec) :=
 OpenClaim.holds_of_wide 5 Tryz.f5 rfl rfl rfl rfl rfl rfl rfl ⟨rfl, rfl, rfl, rfl, rfl⟩ rfl rfl rfl rfl rfl (by kernel_rfl) Tryz.func5 (by kernel_rfl)
  (of_decide_eq_true (by kernel_rfl)) (by unfold Func.isWrapper; first | (rw [if_pos (by decide +kernel)]; kernel_rfl) | (rw [if_neg (by decide +kernel)]; exact ⟨rfl, rfl⟩))
  (fun os started H enc _ => lifted os started H enc)
theorem proved : Rows.FnExactMachineNewSaid := over
#print axioms proved
end Go.Proofs.YtmljebgideecjaaGreat.fnExactMachineNew
namespace Go.Proofs.YtmljebgideecjaaGreat
theorem fnExactMachineNew_holds : Rows.FnExactMachineNewSaid := fnExactMachineNew.proved
end Go.Proofs.YtmljebgideecjaaGreat
