/- The law FnExactColNameOk holds: for every input the call returns true, and each argument reads afterwards as it read before. Conditions: none. Written by a program of this session. -/
import Derived.Test.YtgnmdhkkbkoghaaRows
import Derived.Test.YtgnmdhkkbkoghaaPxf5
import Derived.Test.YtgnmdhkkbkoghaaPWf
import Derived.Test.YtgnmdhkkbkoghaaPPureFnExactColNameOk
import Derived.WalkKit
import Derived.ProofKit
import Derived.OpenShut
import Derived.ShutString
import Derived.ChangeOld
import Derived.Below
import Derived.SizedLaws
import Derived.Carry
namespace Go.Proofs.Ytgnmdhkkbkoghaa.fnExactColNameOk
open Go.ChangeShapes Go.WideShapes Go.ChangeAt Go.RowKit Go.Proofs.YtgnmdhkkbkoghaaW.PrintWords Go.Proofs.YtgnmdhkkbkoghaaW.PrintLast Go.Proofs.YtgnmdhkkbkoghaaZ Go.Proofs.Ytgnmdhkkbkoghaa.P
open Go.ChangeMaps (open_string shut_string)
set_option linter.unusedVariables false
theorem own : ownKnob Try.prog.godebug = none := by kernel_rfl
theorem laidOut : laidOutB Try.prog = true := by kernel_rfl
set_option maxRecDepth 100000 in
theorem lifted (os : Os) (started : os.Started) (H : Type) (enc : TypeId × Value → H) :
    ReturnsInHanded {} Try.checked os 5 .any (Rows.fnExactColNameOkSpec.pre6 enc Try.prog Try.f5 Rows.fnExactColNameOkRow.domain false) (Rows.fnExactColNameOkSpec.post enc Try.prog Try.f5 false true false false) := by
  refine returnsInHanded_of_change_sized (C := Try.checked) own started (by kernel_rfl) Try.func5
    (ChangeSpec.witness6 (enc := enc) (C := Try.checked) false ⟨#[], #[.string ByteArray.empty], []⟩ 8 (by kernel_rfl) (by kernel_rfl) (by kernel_rfl) (by kernel_rfl)) ?_
  intro W base args ds gs before hval0 hW hcnd hsz0 _
  have hval : ∀ (j : Nat) t v, Try.f5.params[j]? = some t → args[j]? = some v → Value.okWide Try.prog W .any base t v := hval0
  have hW' := hW
  obtain ⟨p, q, hA0, hV, rfl, hfz, hnd⟩ := hW
  have hA : DataW.TrodAll enc Try.prog W 0 (fun _ => true) true Try.f5.params.toList args.toList ds p := hA0
  rw [Try.params5] at hA hval
  obtain ⟨v0, vs0, d0, ds0, p0, q0, hargs, rfl, rfl, h0, r0⟩ := trodAll_cons hA
  obtain ⟨rfl, rfl, rfl⟩ := trodAll_nil r0
  obtain rfl : args = #[v0] := by cases args; simp_all
  obtain ⟨rfl, rfl⟩ := trodVars_none hV
  obtain ⟨x0, rfl, rfl, rfl, y0⟩ := open_string Try.underlying9 (hval 0 9 v0 rfl rfl) h0
  have w0 : x0.size ≤ 9223372036854775807 := by have := y0; simp only [maxLen] at this; omega
  obtain ⟨k, hk⟩ := pureFnExactColNameOk x0 w0
  clear hA0 hval0 hsz0
  refine (laws_FnExactColNameOk.calls k x0 true W  hk).mono fun e W' hh => ?_
  obtain ⟨he, bel0⟩ := hh
  have bel : Below W.heap.size W W' := bel0.below
  subst he
  exact ⟨_, rfl, _, _, _, [], _, [], hW', trodAll_mk1 (shut_bool Try.underlying4 _), (trodAll_cons_mk (shut_string Try.underlying9 y0) trodAll_mk0), rfl, bel.frame _, fun h => by cases h⟩
theorem over : Rows.fnExactColNameOkRow.holds Try.pinned (OpenSpec.ofChange Rows.fnExactColNameOkSpec) :=
  OpenClaim.holds_of_wide 5 Try.f5 rfl rfl rfl rfl rfl rfl rfl ⟨rfl, rfl, rfl, rfl, rfl⟩ rfl rfl rfl rfl rfl (by kernel_rfl) Try.func5 (by kernel_rfl)
    (of_decide_eq_true (by kernel_rfl)) (by unfold Func.isWrapper; first | (rw [if_pos (by decide +kernel)]; kernel_rfl) | (rw [if_neg (by decide +kernel)]; exact ⟨rfl, rfl⟩))
    (fun os started H enc _ => lifted os started H enc)
theorem proved : Rows.FnExactColNameOkSaid := over
#print axioms proved
end Go.Proofs.Ytgnmdhkkbkoghaa.fnExactColNameOk
namespace Go.Proofs.Ytgnmdhkkbkoghaa
/-- The row, under a short name, for the claim. -/
theorem fnExactColNameOk_holds : Rows.FnExactColNameOkSaid := fnExactColNameOk.proved
end Go.Proofs.Ytgnmdhkkbkoghaa
