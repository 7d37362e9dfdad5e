/- The law FnExactTupleOf holds: for every input the call returns true, and each argument reads afterwards as_ it read before. Conditions: none. Written by a program of this session. -/
import Derived.Test.YtgnmdhkkbkoghaaRows
import Derived.WalkKit
import Derived.ProofKit
import Derived.OpenShut
import Derived.ShutString
import Derived.ChangeOld
import Derived.Below
import Derived.SizedLaws
import Derived.Carry
import Derived.Test.YtgnmdhkkbkoghaaPkFnExactTupleOf4
section
set_option linter.unusedSimpArgs false
set_option linter.unusedVariables false
namespace Go.Proofs.Ytgnmdhkkbkoghaa.P
open Go.RowKit Go.Proofs.YtgnmdhkkbkoghaaW.PrintWords Go.Proofs.YtgnmdhkkbkoghaaW.PrintLast Go.Proofs.YtgnmdhkkbkoghaaZ
theorem u8_wf {n : Int} (h : (Lit.int .u8 n).wf = true) : 0 ≤ n ∧ n < 256 := by
  simp [Lit.wf, IntKind.min, IntKind.max, IntKind.bits, IntKind.signed] at h
  omega
theorem pureFnExactTupleOf : PureFnExactTupleOf := by
  intro x hxx
  refine Ev.rounds ?_
  simp only [laws_FnExactTupleOf.f]
  by_cases hp' : (x.length : Int) > 1048576
  · simp only [hp', if_true]; exact Ev.now _
  have hx : x.length ≤ 1048576 := by omega
  have hB : isB x := fun b hb => u8_wf (hxx.2 b hb)
  simp only [hp', if_false]
  have h1 := impl_TupleOf_ev x hx hB
  have h2 := spec_TupleOf_ev x hx hB
  have hr := tupOf_le x
  have hre : Ev (fun k => laws_eqValueS.f k (tupOf x).1 (tupOf x).1) true := eqValueS_ev _ (by omega)
  refine Ev.bind (toByteS_ev x hx) (Ev.bind h2 (Ev.bind (toByteS_ev x hx) (Ev.bind h1 (Ev.bind hre ?_))))
  simp only [if_true, bne_self_eq_false]
  refine Ev.shift ?_
  simp only [laws_FnExactTupleOf.j0, Bool.false_eq_true, if_false]
  refine Ev.bind (toByteS_ev x hx) (Ev.bind (eqByteS_ev x (by omega)) ?_)
  simp only [if_true]
  refine Ev.bind (markByteS_ev x 1 (by decide) (by omega)) ?_
  have c2 : ¬ (1 + (x.length : Int) < 0) := by omega
  simp only [c2, if_false]
  refine Ev.bind hre ?_
  simp only [if_true, bne_self_eq_false]
  refine Ev.shift ?_
  simp only [laws_FnExactTupleOf.j1, Bool.false_eq_true, if_false]
  have hh := heldValueS_ev (tupOf x).1 1 (by decide) (by omega) (by decide)
  refine Ev.bind (markValueS_ev (tupOf x).1 1 (by decide) (by omega) (by decide)) (Ev.bind hh ?_)
  have c3 : ¬ (1 + 3 * ((tupOf x).1.length : Int) < 0) := by omega
  simp only [c3, if_false, if_true]
  refine Ev.bind (toByteS_ev x hx) (Ev.bind h1 (Ev.bind hre ?_))
  simp only [if_true, bne_self_eq_false]
  refine Ev.shift ?_
  simp only [laws_FnExactTupleOf.j2, Bool.false_eq_true, if_false]
  refine Ev.bind hh ?_
  simp only [c3, if_false, if_true]
  exact Ev.now _
end Go.Proofs.Ytgnmdhkkbkoghaa.P
end
namespace Go.Proofs.Ytgnmdhkkbkoghaa.fnExactTupleOf
open Go.ChangeShapes Go.WideShapes Go.ChangeAt Go.RowKit Go.Proofs.YtgnmdhkkbkoghaaW.PrintWords Go.Proofs.YtgnmdhkkbkoghaaW.PrintLast Go.Proofs.YtgnmdhkkbkoghaaZ Go.Proofs.Ytgnmdhkkbkoghaa.P
open Go.ChangeMaps (open_string shut_string)
set_option linter.unusedVariables false
theorem own : ownKnob Try.prog.godebug = none := by kernel_rfl
theorem laidOut : laidOutB Try.prog = true := by kernel_rfl
set_option maxRecDepth 100000 in
theorem lifted (os : Os) (started : os.Started) (H : Type) (enc : TypeId × Value → H) :
    ReturnsInHanded {} Try.checked os 14 .any (Rows.fnExactTupleOfSpec.pre6 enc Try.prog Try.f14 Rows.fnExactTupleOfRow.domain false) (Rows.fnExactTupleOfSpec.post enc Try.prog Try.f14 false true false false) := by
  refine returnsInHanded_of_change_sized (C := Try.checked) own started (by kernel_rfl) Try.func14
    (ChangeSpec.witness6 (enc := enc) (C := Try.checked) false ⟨#[], #[.slice none 0 0], []⟩ 8 (by kernel_rfl) (by kernel_rfl) (by kernel_rfl) (by kernel_rfl)) ?_
  intro W base args ds gs before hval0 hW hcnd hsz0 _
  have hval : ∀ (j : Nat) t v, Try.f14.params[j]? = some t → args[j]? = some v → Value.okWide Try.prog W .any base t v := hval0
  have hW' := hW
  obtain ⟨p, q, hA0, hV, rfl, hfz, hnd⟩ := hW
  have hA : DataW.TrodAll enc Try.prog W 0 (fun _ => true) true Try.f14.params.toList args.toList ds p := hA0
  rw [Try.params14] at hA hval
  obtain ⟨v0, vs0, d0, ds0, p0, q0, hargs, rfl, rfl, h0, r0⟩ := trodAll_cons hA
  obtain ⟨rfl, rfl, rfl⟩ := trodAll_nil r0
  obtain rfl : args = #[v0] := by cases args; simp_all
  obtain ⟨rfl, rfl⟩ := trodVars_none hV
  have k0_ := h0
  have lt0 : ∀ x ∈ p0, x.block < W.heap.size := by obtain ⟨m, hm⟩ := k0_; exact DataW.trod_lt m _ _ _ hm
  obtain ⟨a0_, len0_, cap0_, rfl⟩ := okWide_slice Try.underlying50 (hval 0 50 v0 rfl rfl)
  obtain ⟨x0, K0, wf0_⟩ := Opens.param (Opens.slice 5 Try.underlying50 (by kernel_rfl) (Opens.int Try.underlying5)) h0
  obtain ⟨A0, c0, e0, l0, g0⟩ := K0
  simp [Value.cells] at e0
  obtain ⟨rfl, rfl, rfl⟩ := e0
  obtain ⟨k, hk⟩ := pureFnExactTupleOf x0 wf0_
  clear hA0 hval0 hsz0
  refine (laws_FnExactTupleOf.calls k _ _ x0 true W g0 l0 hk).mono fun e W' hh => ?_
  obtain ⟨he, bel0⟩ := hh
  have bel : Below W.heap.size W W' := bel0
  subst he
  exact ⟨_, rfl, _, _, _, [], _, [], hW', trodAll_mk1 (shut_bool Try.underlying4 _), (trodAll_cons_mk (Below.trod laidOut (by kernel_rfl) (of_decide_eq_true (by kernel_rfl)) k0_ bel lt0) trodAll_mk0), rfl, bel.frame _, fun h => by cases h⟩
theorem over : Rows.fnExactTupleOfRow.holds Try.pinned (OpenSpec.ofChange Rows.fnExactTupleOfSpec) :=
  OpenClaim.holds_of_wide 14 Try.f14 rfl rfl rfl rfl rfl rfl rfl ⟨rfl, rfl, rfl, rfl, rfl⟩ rfl rfl rfl rfl rfl (by kernel_rfl) Try.func14 (by kernel_rfl)
    (of_decide_eq_true (by kernel_rfl)) (by unfold Func.isWrapper; first | (rw [if_pos (by decide +kernel)]; kernel_rfl) | (rw [if_neg (by decide +kernel)]; exact ⟨rfl, rfl⟩))
    (fun os started H enc _ => lifted os started H enc)
theorem proved : Rows.FnExactTupleOfSaid := over
#print axioms proved
end Go.Proofs.Ytgnmdhkkbkoghaa.fnExactTupleOf
namespace Go.Proofs.Ytgnmdhkkbkoghaa
theorem fnExactTupleOf_holds : Rows.FnExactTupleOfSaid := fnExactTupleOf.proved
end Go.Proofs.Ytgnmdhkkbkoghaa
