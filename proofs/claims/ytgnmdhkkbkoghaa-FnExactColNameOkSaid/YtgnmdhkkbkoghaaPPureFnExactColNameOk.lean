/- The pure statement of the law FnExactColNameOk is proved: no Go, no memory. Conditions: none. -/
import Derived.Test.YtgnmdhkkbkoghaaPStmtFnExactColNameOk
import Derived.Test.YtgnmdhkkbkoghaaZPure
namespace Go.Proofs.Ytgnmdhkkbkoghaa.P
open Go.RowKit Go.Proofs.YtgnmdhkkbkoghaaW.PrintWords Go.Proofs.YtgnmdhkkbkoghaaW.PrintLast Go.Proofs.YtgnmdhkkbkoghaaZ
theorem col_both (s : ByteArray) (hs : s.size ≤ 1048576) : ∀ i : Nat, i ≤ s.size → ∃ r, Ev (fun k => spec_ColNameOk.l0 k s i) r ∧ Ev (fun k => impl_ColNameOk.l0 k s s.size i) r := by
  refine back ?_ fun i hi ih => ?_
  · have h : ¬ ((s.size : Int) < (s.size : Int)) := by omega
    by_cases h1 : (s.size : Int) ≥ 1
    · refine ⟨decide ((s.size : Int) ≤ 12), Ev.shift ?_, Ev.shift ?_⟩
      · simp only [spec_ColNameOk.l0, h, if_false, spec_l1In.f, h1, if_true, Option.bind_some]; exact Ev.now _
      · simp only [impl_ColNameOk.l0, h, if_false, impl_from.f, h1, if_true, Option.bind_some]; exact Ev.now _
    · refine ⟨false, Ev.shift ?_, Ev.shift ?_⟩
      · simp only [spec_ColNameOk.l0, h, if_false, spec_l1In.f, h1, Option.bind_some]; exact Ev.now _
      · simp only [impl_ColNameOk.l0, h, if_false, impl_from.f, h1, Option.bind_some]; exact Ev.now _
  · have h0 : (0 : Int) ≤ (i : Int) := by omega
    have h : (i : Int) < (s.size : Int) := by omega
    have hw := succ64 hi (by omega)
    obtain ⟨r, e1, e2⟩ := ih
    by_cases h1 : bt s (i : Int) < 97
    · refine ⟨false, Ev.shift ?_, Ev.shift ?_⟩
      · simp only [spec_ColNameOk.l0, h, h0, h1, if_true]; exact Ev.now _
      · simp only [impl_ColNameOk.l0, h, h0, h1, if_true]; exact Ev.now _
    · by_cases h2 : bt s (i : Int) > 122
      · refine ⟨false, Ev.shift ?_, Ev.shift ?_⟩
        · simp only [spec_ColNameOk.l0, h, h0, h1, h2, if_true, if_false]; exact Ev.now _
        · simp only [impl_ColNameOk.l0, h, h0, h1, h2, if_true, if_false]; exact Ev.now _
      · refine ⟨r, Ev.shift ?_, Ev.shift ?_⟩
        · simp only [spec_ColNameOk.l0, h, h0, h1, h2, if_true, if_false, hw]; exact e1
        · simp only [impl_ColNameOk.l0, h, h0, h1, h2, if_true, if_false, hw]; exact e2
theorem pureFnExactColNameOk : PureFnExactColNameOk := by
  intro s _
  refine Ev.rounds ?_
  simp only [laws_FnExactColNameOk.f, spec_ColNameOk.f, impl_ColNameOk.f]
  by_cases h : (s.size : Int) > 1048576
  · simp only [h, if_true]; exact Ev.now _
  · simp only [h, if_false]
    obtain ⟨r, e1, e2⟩ := col_both s (by omega) 0 (Nat.zero_le _)
    refine Ev.bind e1 (Ev.bind e2 ?_)
    simp only [bne_self_eq_false, Bool.false_eq_true, if_false]
    exact Ev.now _
end Go.Proofs.Ytgnmdhkkbkoghaa.P
