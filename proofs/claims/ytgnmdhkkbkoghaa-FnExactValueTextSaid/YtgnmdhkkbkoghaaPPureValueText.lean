/- The text of a value: the program's and the reference's are one. Condition: the value's number is one of 64 bits, its text's length one that Go's int can tell. -/
import Derived.Test.YtgnmdhkkbkoghaaPxf34
import Derived.Test.YtgnmdhkkbkoghaaPxf35
import Derived.Test.YtgnmdhkkbkoghaaPPureDigits
import Derived.Test.YtgnmdhkkbkoghaaPPureValueOk
import Derived.Laws.BitsLemmas
set_option linter.unusedSimpArgs false
set_option linter.unusedVariables false
namespace Go.Proofs.Ytgnmdhkkbkoghaa.P
open Go.RowKit Go.Proofs.YtgnmdhkkbkoghaaW.PrintWords Go.Proofs.YtgnmdhkkbkoghaaW.PrintLast Go.Proofs.YtgnmdhkkbkoghaaZ
def hexA : ByteArray := ⟨#[48, 49, 50, 51, 52, 53, 54, 55, 56, 57, 97, 98, 99, 100, 101, 102]⟩
def hx (s : ByteArray) (i : Int) : List Int := [bt hexA (bt s i / 16), bt hexA (Go.bits .and .u8 (bt s i) 15)]
def hexF (s : ByteArray) : Nat → Nat → List Int
  | _, 0 => []
  | i, n + 1 => hx s i ++ hexF s (i + 1) n
theorem hexF_length (s : ByteArray) : ∀ n i, (hexF s i n).length = 2 * n
  | 0, _ => rfl
  | n + 1, i => by simp only [hexF, hx, List.length_append, hexF_length s n, List.length_cons, List.length_nil]; omega
def vtext (a : iV) : ByteArray :=
  if okV a = true then
    if a.f0 = 0 then ⟨#[110, 117, 108, 108]⟩ else if a.f0 = 1 then (if a.f1 = 0 then ⟨#[110, 111]⟩ else ⟨#[121, 101, 115]⟩)
    else if a.f0 = 2 then dstr a.f1 else strOfNums (34 :: hexF a.f2 0 a.f2.size)
  else ⟨#[98, 97, 100]⟩
theorem okV_kinds {a : iV} (h : okV a = true) : a.f0 = 0 ∨ (a.f0 = 1 ∧ 0 ≤ a.f1 ∧ a.f1 ≤ 1) ∨ (a.f0 = 2 ∧ -1000000000000 ≤ a.f1 ∧ a.f1 ≤ 1000000000000) ∨ (a.f0 = 3 ∧ a.f1 = 0 ∧ a.f2.size ≤ 20) := by
  simp only [okV, Bool.or_eq_true, Bool.and_eq_true, beq_iff_eq, decide_eq_true_eq] at h
  omega
theorem vtext_size (a : iV) : (vtext a).size ≤ 100 := by
  unfold vtext
  split
  · rename_i h
    have hk := okV_kinds h
    split
    · show 4 ≤ _; omega
    · split
      · split
        · show 2 ≤ _; omega
        · show 3 ≤ _; omega
      · split
        · have := dstr_size (n := a.f1) (by omega) (by omega); omega
        · rw [strOfNums_size, List.length_cons, hexF_length]; omega
  · show 3 ≤ _; omega
theorem spec_hex_ev (a b : Int) (s : ByteArray) (hs : s.size ≤ 20) : ∀ (n i : Nat) (out : List Int), i + n = s.size → out.length ≤ 1 + 2 * i →
    Ev (fun k => spec_ValueText.l0 k hexA out (i : Int) a b s) (strOfNums (out ++ hexF s i n)) := by
  intro n
  induction n with
  | zero =>
    intro i out hi hl
    refine Ev.shift ?_
    have h : ¬ ((i : Int) < (s.size : Int)) := by omega
    simp only [spec_ValueText.l0, h, if_false, hexF, List.append_nil]
    exact Ev.now _
  | succ n ih =>
    intro i out hi hl
    have hr := bt_range s (i : Int)
    have h1 : (i : Int) < (s.size : Int) := by omega
    have h2 : (0 : Int) ≤ (i : Int) := by omega
    have h3 : 0 ≤ bt s (i : Int) / 16 := by omega
    have h4 : bt s (i : Int) / 16 < (hexA.size : Int) := by show _ < (16 : Int); omega
    have e := Go.u8_and15 (x := bt s (i : Int)) (by omega) (by omega)
    have h5 : 0 ≤ Go.bits .and .u8 (bt s (i : Int)) 15 := by rw [e]; omega
    have h6 : Go.bits .and .u8 (bt s (i : Int)) 15 < (hexA.size : Int) := by rw [e]; show _ < (16 : Int); omega
    have h7 : out.length + (hx s (i : Int)).length < 140737488355328 := by simp only [hx, List.length_cons, List.length_nil]; omega
    refine Ev.shift ?_
    simp only [spec_ValueText.l0, h1, h2, h3, h4, h5, h6, if_true, Option.bind_some]
    have hh : (if out.length + (hx s (i : Int)).length < 140737488355328 then 1 else 2) = 1 := if_pos h7
    refine Ev.pos (p := out.length + (hx s (i : Int)).length < 140737488355328) h7 ?_
    rw [succ64 (show i < s.size by omega) (by omega)]
    have := ih (i + 1) (out ++ hx s (i : Int)) (by omega) (by simp only [hx, List.length_append, List.length_cons, List.length_nil]; omega)
    rw [List.append_assoc] at this
    exact this
theorem impl_hex_ev (a b : Int) (s : ByteArray) (hs : s.size ≤ 20) : ∀ (n i : Nat) (out : List Int), i + n = s.size → out.length ≤ 1 + 2 * i →
    Ev (fun k => impl_ValueText.l0 k out (s.size : Int) (i : Int) a b s) (strOfNums (out ++ hexF s i n)) := by
  intro n
  induction n with
  | zero =>
    intro i out hi hl
    refine Ev.shift ?_
    have h : ¬ ((i : Int) < (s.size : Int)) := by omega
    simp only [impl_ValueText.l0, h, if_false, hexF, List.append_nil]
    exact Ev.now _
  | succ n ih =>
    intro i out hi hl
    have hr := bt_range s (i : Int)
    have h1 : (i : Int) < (s.size : Int) := by omega
    have h2 : (0 : Int) ≤ (i : Int) := by omega
    have h3 : 0 ≤ bt s (i : Int) / 16 := by omega
    have h4 : bt s (i : Int) / 16 < 16 := by omega
    have e := Go.u8_and15 (x := bt s (i : Int)) (by omega) (by omega)
    have h5 : 0 ≤ Go.bits .and .u8 (bt s (i : Int)) 15 := by rw [e]; omega
    have h6 : Go.bits .and .u8 (bt s (i : Int)) 15 < 16 := by rw [e]; omega
    have h7 : out.length + (hx s (i : Int)).length < 140737488355328 := by simp only [hx, List.length_cons, List.length_nil]; omega
    refine Ev.shift ?_
    simp only [impl_ValueText.l0, h1, h2, h3, h4, h5, h6, if_true, Option.bind_some]
    refine Ev.pos (p := out.length + (hx s (i : Int)).length < 140737488355328) h7 ?_
    rw [succ64 (show i < s.size by omega) (by omega)]
    have := ih (i + 1) (out ++ hx s (i : Int)) (by omega) (by simp only [hx, List.length_append, List.length_cons, List.length_nil]; omega)
    rw [List.append_assoc] at this
    exact this
theorem yn_get {b : Int} (h0 : 0 ≤ b) (h1 : b ≤ 1) : rdOf ByteArray.empty [(⟨#[110, 111]⟩ : ByteArray), (⟨#[121, 101, 115]⟩ : ByteArray)] b = if b = 0 then ⟨#[110, 111]⟩ else ⟨#[121, 101, 115]⟩ := by
  have : b = 0 ∨ b = 1 := by omega
  rcases this with rfl | rfl <;> rfl
theorem spec_ValueText_ev (a : iV) : Ev (fun k => spec_ValueText.f k a.f0 a.f1 a.f2) (vtext a) := by
  simp only [spec_ValueText.f, spec_ValueOk_eq, Option.bind_some, vtext]
  by_cases h : okV a = true
  · simp only [h, if_true]
    rcases okV_kinds h with k0 | ⟨k0, k1, k2⟩ | ⟨k0, k1, k2⟩ | ⟨k0, k1, k2⟩
    · simp only [k0, show ¬ (0 : Int) = 1 by decide, show ¬ (0 : Int) = 2 by decide, show ¬ (0 : Int) = 3 by decide, if_true, if_false]
      exact Ev.now _
    · have c : a.f1 < ((2 : Nat) : Int) := by omega
      simp only [k0, show ¬ (1 : Int) = 0 by decide, if_true, if_false, k1, List.length_cons, List.length_nil, Nat.zero_add, Nat.reduceAdd, c, yn_get k1 k2]
      exact Ev.now _
    · simp only [k0, show ¬ (2 : Int) = 0 by decide, show ¬ (2 : Int) = 1 by decide, if_true, if_false]
      exact Ev.bind (spec_Digits_ev a.f1 (by omega) (by omega)) (Ev.now _)
    · simp only [k0, show ¬ (3 : Int) = 0 by decide, show ¬ (3 : Int) = 1 by decide, show ¬ (3 : Int) = 2 by decide, if_true, if_false]
      exact spec_hex_ev 3 a.f1 a.f2 k2 a.f2.size 0 [34] (by omega) (by simp)
  · simp only [h, if_false]
    exact Ev.now _
theorem impl_ValueText_ev (a : iV) : Ev (fun k => impl_ValueText.f k a.f0 a.f1 a.f2) (vtext a) := by
  simp only [impl_ValueText.f, impl_ValueOk_eq, Option.bind_some, vtext]
  by_cases h : okV a = true
  · simp only [h, if_true]
    rcases okV_kinds h with k0 | ⟨k0, k1, k2⟩ | ⟨k0, k1, k2⟩ | ⟨k0, k1, k2⟩
    · simp only [k0, show ¬ (0 : Int) = 1 by decide, show ¬ (0 : Int) = 2 by decide, show ¬ (0 : Int) = 3 by decide, if_true, if_false]
      exact Ev.now _
    · simp only [k0, show ¬ (1 : Int) = 0 by decide, show ¬ (1 : Int) = 2 by decide, if_true, if_false]
      refine Ev.shift ?_
      by_cases k3 : a.f1 = 0
      · simp only [impl_ValueText.j0, k3, beq_self_eq_true, if_true]
        exact Ev.now _
      · simp only [impl_ValueText.j0, beq_iff_eq, k3, if_true, if_false]
        exact Ev.now _
    · simp only [k0, show ¬ (2 : Int) = 0 by decide, show ¬ (2 : Int) = 1 by decide, if_true, if_false]
      exact Ev.bind (impl_Digits_ev a.f1 (by omega) (by omega)) (Ev.now _)
    · simp only [k0, show ¬ (3 : Int) = 0 by decide, show ¬ (3 : Int) = 1 by decide, show ¬ (3 : Int) = 2 by decide, if_true, if_false]
      refine Ev.shift ?_
      simp only [impl_ValueText.j0, Bool.false_eq_true, show ¬ (3 : Int) = 1 by decide, if_false]
      exact impl_hex_ev 3 a.f1 a.f2 k2 a.f2.size 0 [34] (by omega) (by simp)
  · simp only [h, if_false]
    exact Ev.now _
end Go.Proofs.Ytgnmdhkkbkoghaa.P
