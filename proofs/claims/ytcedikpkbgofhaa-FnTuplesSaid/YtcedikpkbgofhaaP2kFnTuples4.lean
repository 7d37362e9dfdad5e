/- The law FnTuples holds: for every input the call returns true, and each argument reads afterwards as_ it read before. Conditions: none. Written by a program of this session. -/
import Derived.Laws.BitsLemmas
import Derived.Lib.Join
import Derived.Test.YtcedikpkbgofhaaRows
import Derived.WalkKit
import Derived.ProofKit
import Derived.OpenShut
import Derived.ShutString
import Derived.ChangeOld
import Derived.Below
import Derived.SizedLaws
import Derived.Carry
import Derived.Test.YtcedikpkbgofhaaP2kFnTuples3
set_option linter.unusedSimpArgs false
set_option linter.unusedVariables false
namespace Go.Proofs.Ytcedikpkbgofhaa.P2
open Go.RowKit Go.Proofs.YtcedikpkbgofhaaW.PrintWords Go.Proofs.YtcedikpkbgofhaaW.PrintLast Go.Proofs.YtcedikpkbgofhaaW.PrintMore Go.Proofs.YtcedikpkbgofhaaZ
theorem impl_text_total (x : List Int) (hx : x.length ≤ 1048576) : ∀ (n p : Nat) (out : List Int), x.length + 1 - p ≤ n → p ≤ x.length + 1 → out.length ≤ p →
    ∃ (s : ByteArray) (r : List Int), r.length ≤ x.length ∧ Ev (fun k => impl_takeText.l0 k x out (p : Int)) (s, r) := by
  intro n
  induction n with
  | zero =>
    intro p out hn hp hl
    refine ⟨strOfNums out, [], Nat.zero_le _, Ev.shift ?_⟩
    have c : ¬ ((p : Int) < (x.length : Int)) := by omega
    simp only [impl_takeText.l0, c, if_false]
    exact Ev.now _
  | succ n ih =>
    intro p out hn hp hl
    by_cases c : (p : Int) < (x.length : Int)
    · have c1 : (0 : Int) ≤ (p : Int) := by omega
      have w1 : wrap64 ((p : Int) + 1) = ((p + 1 : Nat) : Int) := succ64 (show p < x.length by omega) (by omega)
      have w2 : wrap64 ((p : Int) + 2) = ((p + 2 : Nat) : Int) := by rw [w64 (by omega) (by omega)]; omega
      have w3 : wrap64 (((p + 1 : Nat) : Int) + 1) = ((p + 2 : Nat) : Int) := by rw [w64 (by omega) (by omega)]; omega
      have c4 : out.length < 140737488355328 := by omega
      have c3 : (0 : Int) ≤ ((p + 1 : Nat) : Int) := by omega
      have c5 : (0 : Int) ≤ ((p + 2 : Nat) : Int) := by omega
      by_cases hz : rd x (p : Int) = 0
      · by_cases c2 : ((p + 1 : Nat) : Int) < (x.length : Int)
        · by_cases h1 : rd x ((p + 1 : Nat) : Int) = 1
          · have c6 : ((p + 2 : Nat) : Int) ≤ (x.length : Int) := by omega
            refine ⟨strOfNums out, x.drop (p + 2), by rw [List.length_drop]; omega, Ev.shift ?_⟩
            simp only [impl_takeText.l0, w1, w2, c, c1, c2, c3, c5, c6, hz, h1, if_true, Int.toNat_natCast]
            exact Ev.now _
          · obtain ⟨s, r, h2, h3⟩ := ih (p + 2) (out ++ [0]) (by omega) (by omega) (by simp only [List.length_append, List.length_cons, List.length_nil]; omega)
            refine ⟨s, r, h2, Ev.shift ?_⟩
            simp only [impl_takeText.l0, w1, w3, c, c1, c2, c3, c4, hz, h1, if_true, if_false]
            exact h3
        · obtain ⟨s, r, h2, h3⟩ := ih (p + 2) (out ++ [0]) (by omega) (by omega) (by simp only [List.length_append, List.length_cons, List.length_nil]; omega)
          refine ⟨s, r, h2, Ev.shift ?_⟩
          simp only [impl_takeText.l0, w1, w3, c, c1, c2, c4, hz, if_true, if_false]
          exact h3
      · obtain ⟨s, r, h2, h3⟩ := ih (p + 1) (out ++ [rd x (p : Int)]) (by omega) (by omega) (by simp only [List.length_append, List.length_cons, List.length_nil]; omega)
        refine ⟨s, r, h2, Ev.shift ?_⟩
        simp only [impl_takeText.l0, w1, c, c1, c4, hz, if_true, if_false]
        exact h3
    · refine ⟨strOfNums out, [], Nat.zero_le _, Ev.shift ?_⟩
      simp only [impl_takeText.l0, c, if_false]
      exact Ev.now _
theorem impl_be_total (x y : List Int) (hx : 8 ≤ x.length) (a b : Int) (s : ByteArray) : ∀ i : Nat, i ≤ y.length → y.length ≤ 8 → ∀ acc : Int, ∃ v : Int, Ev (fun k => impl_takeValue.l0 k x acc y (y.length : Int) (i : Int) a b s) (a, v, s, x.drop 8) := by
  intro i hi h8
  revert i
  refine back ?_ fun i hi ih => ?_
  · intro acc
    refine ⟨wrap64 (wrap64 acc - 4611686018427387904), Ev.shift ?_⟩
    have c2 : (8 : Int) ≤ (x.length : Int) := by omega
    simp only [impl_takeValue.l0, Int.lt_irrefl, c2, if_true, if_false]
    exact Ev.now _
  · intro acc
    obtain ⟨v, h⟩ := ih (Go.bits .or .u64 (IntKind.u64.wrap (acc * 256)) (IntKind.u64.wrap (rd y (i : Int))))
    have c0 : (0 : Int) ≤ (i : Int) := by omega
    have c1 : (i : Int) < (y.length : Int) := by omega
    refine ⟨v, Ev.shift ?_⟩
    simp only [impl_takeValue.l0, c0, c1, if_true, succ64 hi (by omega)]
    exact h
theorem impl_take_total (x : List Int) (hx : x.length ≤ 1048576) (hn : x ≠ []) : ∃ (v : iV) (r : List Int), r.length ≤ x.length ∧ Ev (fun k => impl_takeValue.f k x) (v.f0, v.f1, v.f2, r) := by
  have hl : 0 < x.length := List.length_pos_iff.mpr hn
  have c0 : (0 : Int) < (x.length : Int) := by omega
  have c1 : (1 : Int) ≤ (x.length : Int) := by omega
  simp only [impl_takeValue.f, c0, c1, if_true, Option.bind_some]
  generalize hK : wrap64 (wrap64 (rd x 0) - 1) = K
  have hd : (x.drop 1).length ≤ x.length := by rw [List.length_drop]; omega
  generalize x.drop 1 = y at hd
  have key : ∃ (v : iV) (r : List Int), r.length ≤ x.length ∧ Ev (fun k => impl_takeValue.j0 k y false K 0 ⟨#[]⟩) (v.f0, v.f1, v.f2, r) := by
    by_cases h2 : K = 2
    · by_cases h8 : (y.length : Int) ≥ 8
      · have hy8 : 8 ≤ y.length := by omega
        have c8 : (8 : Int) ≤ (y.length : Int) := by omega
        obtain ⟨v, h⟩ := impl_be_total y (y.take 8) hy8 2 0 ⟨#[]⟩ 0 (Nat.zero_le _) (by rw [List.length_take]; omega) 0
        refine ⟨⟨2, v, ⟨#[]⟩⟩, y.drop 8, by rw [List.length_drop]; omega, Ev.shift ?_⟩
        simp only [impl_takeValue.j0, Bool.false_eq_true, if_false, if_true, h2]
        refine Ev.shift ?_
        simp only [impl_takeValue.j1, h8, c8, decide_true, if_true, Option.bind_some]
        exact h
      · refine ⟨⟨2, 0, ⟨#[]⟩⟩, y, hd, Ev.shift ?_⟩
        simp only [impl_takeValue.j0, Bool.false_eq_true, if_false, if_true, h2]
        refine Ev.shift ?_
        simp only [impl_takeValue.j1, h8, decide_false, Bool.false_eq_true, if_false, show ¬ (2 : Int) = 3 by decide]
        exact Ev.now _
    · by_cases h3 : K = 3
      · obtain ⟨s, r, g1, g2⟩ := impl_text_total y (by omega) (y.length + 1) 0 [] (by omega) (by omega) (by simp)
        refine ⟨⟨3, 0, s⟩, r, by omega, Ev.shift ?_⟩
        simp only [impl_takeValue.j0, Bool.false_eq_true, if_false, h2]
        refine Ev.shift ?_
        simp only [impl_takeValue.j1, Bool.false_eq_true, if_false, h3, if_true]
        have g3 : Ev (fun k => impl_takeText.f k y) (s, r) := g2
        refine Ev.bind g3 ?_
        exact Ev.now _
      · refine ⟨⟨K, 0, ⟨#[]⟩⟩, y, hd, Ev.shift ?_⟩
        simp only [impl_takeValue.j0, Bool.false_eq_true, if_false, h2]
        refine Ev.shift ?_
        simp only [impl_takeValue.j1, Bool.false_eq_true, if_false, h3]
        exact Ev.now _
  by_cases h1 : K = 1
  · simp only [h1, if_true] at key ⊢
    by_cases h0 : (y.length : Int) > 0
    · have c2 : (0 : Int) < (y.length : Int) := h0
      have c3 : (1 : Int) ≤ (y.length : Int) := by omega
      refine ⟨⟨1, wrap64 (rd y 0), ⟨#[]⟩⟩, y.drop 1, by rw [List.length_drop]; omega, Ev.shift ?_⟩
      simp only [impl_takeValue.j0, h0, c2, c3, decide_true, if_true]
      exact Ev.now _
    · simp only [h0, decide_false]
      exact key
  · simp only [h1, if_false]
    exact key
theorem spec_text_total (x : List Int) (hx : x.length ≤ 1048576) : ∀ (n p : Nat) (out : List Int), x.length + 1 - p ≤ n → p ≤ x.length + 1 → out.length ≤ p →
    ∃ (s : ByteArray) (q : Nat), q ≤ x.length + 1 ∧ Ev (fun k => spec_l18Text.l0 k x (p : Int) out) (s, (q : Int)) := by
  intro n
  induction n with
  | zero =>
    intro p out hn hp hl
    refine ⟨⟨#[]⟩, x.length + 1, Nat.le_refl _, Ev.shift ?_⟩
    have w1 : wrap64 ((p : Int) + 1) = ((p + 1 : Nat) : Int) := by rw [w64 (by omega) (by omega)]; omega
    have w2 : wrap64 ((x.length : Int) + 1) = ((x.length + 1 : Nat) : Int) := by rw [w64 (by omega) (by omega)]; omega
    have c : ¬ (((p + 1 : Nat) : Int) < (x.length : Int)) := by omega
    simp only [spec_l18Text.l0, w1, w2, c, if_false]
    exact Ev.now _
  | succ n ih =>
    intro p out hn hp hl
    have w1 : wrap64 ((p : Int) + 1) = ((p + 1 : Nat) : Int) := by rw [w64 (by omega) (by omega)]; omega
    have w2 : wrap64 ((x.length : Int) + 1) = ((x.length + 1 : Nat) : Int) := by rw [w64 (by omega) (by omega)]; omega
    have w3 : wrap64 ((p : Int) + 2) = ((p + 2 : Nat) : Int) := by rw [w64 (by omega) (by omega)]; omega
    have w4 : wrap64 (((p + 1 : Nat) : Int) + 1) = ((p + 2 : Nat) : Int) := by rw [w64 (by omega) (by omega)]; omega
    by_cases c : ((p + 1 : Nat) : Int) < (x.length : Int)
    · have c1 : (0 : Int) ≤ (p : Int) := by omega
      have c2 : (p : Int) < (x.length : Int) := by omega
      have c3 : (0 : Int) ≤ ((p + 1 : Nat) : Int) := by omega
      have c4 : out.length < 140737488355328 := by omega
      by_cases hz : rd x (p : Int) = 0
      · by_cases h1 : rd x ((p + 1 : Nat) : Int) = 1
        · refine ⟨strOfNums out, p + 2, by omega, Ev.shift ?_⟩
          simp only [spec_l18Text.l0, w1, c, c1, c2, c3, hz, h1, if_true]
          refine Ev.shift ?_
          simp only [spec_l18Text.j1, beq_self_eq_true, if_true, w3]
          exact Ev.now _
        · obtain ⟨s, q, h2, h3⟩ := ih (p + 2) (out ++ [0]) (by omega) (by omega) (by simp only [List.length_append, List.length_cons, List.length_nil]; omega)
          refine ⟨s, q, h2, Ev.shift ?_⟩
          simp only [spec_l18Text.l0, w1, c, c1, c2, c3, hz, if_true]
          refine Ev.shift ?_
          simp only [spec_l18Text.j1, beq_iff_eq, h1, if_false, c1, c2, c4, hz, if_true, Option.bind_some, w1, w4]
          exact h3
      · obtain ⟨s, q, h2, h3⟩ := ih (p + 1) (out ++ [rd x (p : Int)]) (by omega) (by omega) (by simp only [List.length_append, List.length_cons, List.length_nil]; omega)
        refine ⟨s, q, h2, Ev.shift ?_⟩
        simp only [spec_l18Text.l0, w1, c, c1, c2, hz, if_true, if_false]
        refine Ev.shift ?_
        simp only [spec_l18Text.j1, Bool.false_eq_true, if_false, c1, c2, c4, hz, if_true, Option.bind_some, w1]
        exact h3
    · refine ⟨⟨#[]⟩, x.length + 1, Nat.le_refl _, Ev.shift ?_⟩
      simp only [spec_l18Text.l0, w1, w2, c, if_false]
      exact Ev.now _
theorem spec_be_total (x : List Int) (hx : x.length ≤ 1048576) (p0 : Nat) (hp0 : p0 ≤ 1048576) (a : Int) (s : ByteArray) : ∀ (n p : Nat), p + n = p0 + 9 → ∀ acc : Int,
    ∃ v : Int, Ev (fun k => spec_l18Read.l0 k x (p0 : Int) (p : Int) a acc s) (a, v, s, ((p0 + 9 : Nat) : Int)) := by
  have w : wrap64 ((p0 : Int) + 9) = ((p0 + 9 : Nat) : Int) := by rw [w64 (by omega) (by omega)]; omega
  intro n
  induction n with
  | zero =>
    intro p hp acc
    have c : ¬ ((p : Int) < ((p0 + 9 : Nat) : Int)) := by omega
    refine ⟨wrap64 (acc - 4611686018427387904), Ev.shift ?_⟩
    simp only [spec_l18Read.l0, w, c, if_false]
    exact Ev.now _
  | succ n ih =>
    intro p hp acc
    have c : ((p : Int) < ((p0 + 9 : Nat) : Int)) := by omega
    by_cases c2 : (p : Int) < (x.length : Int)
    · have c1 : (0 : Int) ≤ (p : Int) := by omega
      obtain ⟨v, h⟩ := ih (p + 1) (by omega) (Go.bits .or .i64 (wrap64 (acc * 256)) (wrap64 (rd x (p : Int))))
      refine ⟨v, Ev.shift ?_⟩
      simp only [spec_l18Read.l0, w, c, c1, c2, if_true, succ64 (show p < x.length by omega) (by omega)]
      exact h
    · refine ⟨wrap64 (acc - 4611686018427387904), Ev.shift ?_⟩
      simp only [spec_l18Read.l0, w, c, c2, if_true, if_false]
      exact Ev.now _
theorem spec_read_total (x : List Int) (hx : x.length ≤ 1048576) (p : Nat) (hp : p < x.length) : ∃ (v : iV) (q : Nat), q ≤ 2000000 ∧ Ev (fun k => spec_l18Read.f k x (p : Int)) (v.f0, v.f1, v.f2, (q : Int)) := by
  have c0 : (0 : Int) ≤ (p : Int) := by omega
  have c1 : (p : Int) < (x.length : Int) := by omega
  have w1 : wrap64 ((p : Int) + 1) = ((p + 1 : Nat) : Int) := succ64 hp (by omega)
  have w2 : wrap64 ((p : Int) + 2) = ((p + 2 : Nat) : Int) := by rw [w64 (by omega) (by omega)]; omega
  have w3 : wrap64 ((x.length : Int) + 1) = ((x.length + 1 : Nat) : Int) := by rw [w64 (by omega) (by omega)]; omega
  simp only [spec_l18Read.f, c0, c1, if_true, w1, w2, w3]
  generalize wrap64 (wrap64 (rd x (p : Int)) - 1) = K
  by_cases h0 : K = 0
  · simp only [h0, if_true]
    exact ⟨⟨0, 0, ⟨#[]⟩⟩, p + 1, by omega, Ev.now _⟩
  · by_cases h1 : K = 1
    · simp only [h1, show ¬ (1 : Int) = 0 by decide, if_true, if_false]
      by_cases c2 : ((p + 1 : Nat) : Int) < (x.length : Int)
      · have c3 : (0 : Int) ≤ ((p + 1 : Nat) : Int) := by omega
        simp only [c2, c3, if_true]
        exact ⟨⟨1, _, ⟨#[]⟩⟩, p + 2, by omega, Ev.now _⟩
      · simp only [c2, if_false]
        exact ⟨⟨1, 0, ⟨#[]⟩⟩, p + 2, by omega, Ev.now _⟩
    · by_cases h2 : K = 2
      · simp only [h2, show ¬ (2 : Int) = 0 by decide, show ¬ (2 : Int) = 1 by decide, if_true, if_false]
        obtain ⟨v, h⟩ := spec_be_total x hx p (by omega) 2 ⟨#[]⟩ 8 (p + 1) (by omega) 0
        exact ⟨⟨2, v, ⟨#[]⟩⟩, p + 9, by omega, h⟩
      · by_cases h3 : K = 3
        · simp only [h3, show ¬ (3 : Int) = 0 by decide, show ¬ (3 : Int) = 1 by decide, show ¬ (3 : Int) = 2 by decide, if_true, if_false]
          obtain ⟨s, q, g1, g2⟩ := spec_text_total x hx (x.length + 1) (p + 1) [] (by omega) (by omega) (by simp)
          refine ⟨⟨3, 0, s⟩, q, by omega, ?_⟩
          have g3 : Ev (fun k => spec_l18Text.f k x ((p + 1 : Nat) : Int)) (s, (q : Int)) := g2
          refine Ev.bind g3 ?_
          exact Ev.now _
        · simp only [h0, h1, h2, h3, if_false]
          exact ⟨⟨K, 0, ⟨#[]⟩⟩, x.length + 1, by omega, Ev.now _⟩
def finT (x : List Int) (y : List iV) : List iV × Bool := if okT y = true ∧ (strOfNums (tbytes y)).toList = (strOfNums x).toList then (y, true) else ([], false)
theorem impl_fin_ev (x : List Int) (y : List iV) (hy : y.length ≤ 9223372036854775807) : Ev (fun k => impl_TupleOf.j1 k x y) (finT x y) := by
  refine Ev.shift ?_
  simp only [impl_TupleOf.j1, finT, bytes_Equal.f]
  refine Ev.bind (impl_TupleOk_ev y hy) ?_
  by_cases h : okT y = true
  · simp only [h, if_true, true_and, Option.bind_some]
    refine Ev.bind (impl_TupleBytes_ev y hy) ?_
    by_cases h2 : (strOfNums (tbytes y)).toList = (strOfNums x).toList
    · simp only [h2, beq_self_eq_true, if_true]
      exact Ev.now _
    · simp only [h2, beq_iff_eq, if_false]
      exact Ev.now _
  · simp only [h, if_false, false_and]
    exact Ev.now _
theorem spec_fin_ev (x : List Int) (y : List iV) (hy : y.length ≤ 9223372036854775807) : Ev (fun k => spec_TupleOf.j1 k x y (x.length : Int)) (finT x y) := by
  refine Ev.shift ?_
  simp only [spec_TupleOf.j1, finT, if_true]
  refine Ev.bind (spec_TupleOk_ev y hy) ?_
  by_cases h : okT y = true
  · simp only [h, if_true, true_and]
    refine Ev.bind (spec_TupleBytes_ev y hy) ?_
    by_cases h2 : (strOfNums (tbytes y)).toList = (strOfNums x).toList
    · simp only [h2, if_true]
      exact Ev.now _
    · simp only [h2, if_false]
      exact Ev.now _
  · simp only [h, if_false, false_and]
    exact Ev.now _
theorem impl_total (x : List Int) : ∀ (n : Nat) (y : List iV) (z : List Int), y.length + n = 5 → z.length ≤ 1048576 → ∃ y' : List iV, Ev (fun k => impl_TupleOf.l0 k x y z) (finT x y') := by
  intro n
  induction n with
  | zero =>
    intro y z hy hz
    refine ⟨y, Ev.shift ?_⟩
    have c2 : ¬ ((y.length : Int) ≤ 4) := by omega
    by_cases c : (z.length : Int) > 0
    · simp only [impl_TupleOf.l0, c, c2, if_true, if_false]
      exact impl_fin_ev x y (by omega)
    · simp only [impl_TupleOf.l0, c, if_false]
      exact impl_fin_ev x y (by omega)
  | succ n ih =>
    intro y z hy hz
    by_cases c : (z.length : Int) > 0
    · have c2 : ((y.length : Int) ≤ 4) := by omega
      have c3 : y.length < 4398046511104 := by omega
      obtain ⟨v, r, h1, h2⟩ := impl_take_total z hz (by intro e; rw [e] at c; simp at c)
      obtain ⟨y', h3⟩ := ih (y ++ [v]) r (by simp only [List.length_append, List.length_cons, List.length_nil]; omega) (by omega)
      refine ⟨y', Ev.shift ?_⟩
      simp only [impl_TupleOf.l0, c, c2, if_true]
      refine Ev.bind h2 ?_
      simp only [c3, if_true]
      exact h3
    · refine ⟨y, Ev.shift ?_⟩
      simp only [impl_TupleOf.l0, c, if_false]
      exact impl_fin_ev x y (by omega)
theorem spec_end_total (x : List Int) (y : List iV) (hy : y.length ≤ 5) (p : Nat) : ∃ r : List iV × Bool, (r = ([], false) ∨ ∃ y', r = finT x y') ∧ Ev (fun k => spec_TupleOf.j1 k x y (p : Int)) r := by
  by_cases h : p = x.length
  · subst h
    exact ⟨_, Or.inr ⟨y, rfl⟩, spec_fin_ev x y (by omega)⟩
  · refine ⟨_, Or.inl rfl, Ev.shift ?_⟩
    have c : ¬ ((p : Int) = (x.length : Int)) := by omega
    simp only [spec_TupleOf.j1, c, if_false]
    exact Ev.now _
theorem spec_total (x : List Int) (hx : x.length ≤ 1048576) : ∀ (n : Nat) (y : List iV) (p : Nat), y.length + n = 5 → ∃ r : List iV × Bool, (r = ([], false) ∨ ∃ y', r = finT x y') ∧ Ev (fun k => spec_TupleOf.l0 k x y (p : Int)) r := by
  intro n
  induction n with
  | zero =>
    intro y p hy
    obtain ⟨r, h1, h2⟩ := spec_end_total x y (by omega) p
    refine ⟨r, h1, Ev.shift ?_⟩
    have c2 : ¬ ((y.length : Int) ≤ 4) := by omega
    by_cases c : (p : Int) < (x.length : Int)
    · simp only [spec_TupleOf.l0, c, c2, if_true, if_false]
      exact h2
    · simp only [spec_TupleOf.l0, c, if_false]
      exact h2
  | succ n ih =>
    intro y p hy
    by_cases c : (p : Int) < (x.length : Int)
    · have c2 : ((y.length : Int) ≤ 4) := by omega
      have c3 : y.length < 4398046511104 := by omega
      obtain ⟨v, q, h1, h2⟩ := spec_read_total x hx p (by omega)
      obtain ⟨r, h3, h4⟩ := ih (y ++ [v]) q (by simp only [List.length_append, List.length_cons, List.length_nil]; omega)
      refine ⟨r, h3, Ev.shift ?_⟩
      simp only [spec_TupleOf.l0, c, c2, if_true]
      refine Ev.bind h2 ?_
      simp only [c3, if_true]
      exact h4
    · obtain ⟨r, h1, h2⟩ := spec_end_total x y (by omega) p
      refine ⟨r, h1, Ev.shift ?_⟩
      simp only [spec_TupleOf.l0, c, if_false]
      exact h2
theorem encV_ne (a : iV) : encV a ≠ [] := by unfold encV; exact List.cons_ne_nil _ _
theorem finT_self {y : List iV} (h : okT y = true) : finT (encs y) y = (y, true) := by
  unfold finT tbytes
  rw [if_pos h, if_pos ⟨h, rfl⟩]
theorem impl_parse_ev (y : List iV) (h : okT y = true) : Ev (fun k => impl_TupleOf.f k (encs y)) (y, true) := by
  obtain ⟨hm, h4⟩ := okT_mem h
  have hlen := encs_length hm
  have key : ∀ (B A : List iV), y = A ++ B → Ev (fun k => impl_TupleOf.l0 k (encs y) A (encs B)) (y, true) := by
    intro B
    induction B with
    | nil =>
      intro A hA
      rw [List.append_nil] at hA
      subst hA
      refine Ev.shift ?_
      have c : ¬ (((encs ([] : List iV)).length : Int) > 0) := by simp [encs]
      simp only [impl_TupleOf.l0, c, if_false]
      have := impl_fin_ev (encs y) y (by omega)
      rw [finT_self h] at this
      exact this
    | cons a B ih =>
      intro A hA
      have ha := hm a (by rw [hA]; simp)
      have e : encs (a :: B) = encV a ++ encs B := by simp only [encs, List.flatMap_cons]
      have hl2 := encs_length (l := a :: B) (fun b hb => hm b (by rw [hA]; exact List.mem_append_right _ hb))
      have hla : y.length = A.length + (a :: B).length := by rw [hA, List.length_append]
      have hle : (a :: B).length ≤ 4 := by omega
      have c : ((encs (a :: B)).length : Int) > 0 := by
        have := List.length_pos_iff.mpr (encV_ne a)
        rw [e, List.length_append]; omega
      simp only [List.length_cons] at hla
      have c2 : (A.length : Int) ≤ 4 := by omega
      have c3 : A.length < 4398046511104 := by omega
      refine Ev.shift ?_
      simp only [impl_TupleOf.l0, c, c2, if_true]
      refine Ev.bind (impl_take_ev ha (encs (a :: B)) (encs B) (by omega) e) ?_
      simp only [c3, if_true]
      exact ih (A ++ [a]) (by simp [hA])
  simp only [impl_TupleOf.f]
  exact key y [] rfl
theorem spec_parse_ev (y : List iV) (h : okT y = true) : Ev (fun k => spec_TupleOf.f k (encs y)) (y, true) := by
  obtain ⟨hm, h4⟩ := okT_mem h
  have hlen := encs_length hm
  have hx : (encs y).length ≤ 1048576 := by omega
  have key : ∀ (B A : List iV) (p : Nat), y = A ++ B → (encs y).drop p = encs B → p ≤ (encs y).length → Ev (fun k => spec_TupleOf.l0 k (encs y) A (p : Int)) (y, true) := by
    intro B
    induction B with
    | nil =>
      intro A p hA hd hp
      rw [List.append_nil] at hA
      have hpe : p = (encs y).length := by
        have e : ((encs y).drop p).length = 0 := by rw [hd]; rfl
        rw [List.length_drop] at e
        omega
      rw [← hA, hpe]
      refine Ev.shift ?_
      simp only [spec_TupleOf.l0, Int.lt_irrefl, if_false]
      have := spec_fin_ev (encs y) y (by omega)
      rw [finT_self h] at this
      exact this
    | cons a B ih =>
      intro A p hA hd hp
      have ha := hm a (by rw [hA]; simp)
      have e : encs (a :: B) = encV a ++ encs B := by simp only [encs, List.flatMap_cons]
      rw [e] at hd
      have hle := drop_le hd (encV_ne a)
      have hpos := List.length_pos_iff.mpr (encV_ne a)
      obtain ⟨q, g1, g2, g3, g4⟩ := spec_read_ev ha (encs y) (encs B) p hx hd
      have hla : y.length = A.length + (a :: B).length := by rw [hA, List.length_append]
      simp only [List.length_cons] at hla
      have c : (p : Int) < ((encs y).length : Int) := by omega
      have c2 : (A.length : Int) ≤ 4 := by omega
      have c3 : A.length < 4398046511104 := by omega
      refine Ev.shift ?_
      simp only [spec_TupleOf.l0, c, c2, if_true]
      refine Ev.bind g4 ?_
      simp only [c3, if_true]
      exact ih (A ++ [a]) q (by simp [hA]) g1 g3
  simp only [spec_TupleOf.f]
  exact key y [] 0 rfl rfl (Nat.zero_le _)
theorem strs_inj : ∀ {a b : List Int}, isB a → isB b → (strOfNums a).toList = (strOfNums b).toList → a = b := by
  intro a b ha hb h
  rw [ByteArray.toList_eq, ByteArray.toList_eq, strOfNums_data, strOfNums_data] at h
  induction a generalizing b with
  | nil =>
    cases b with
    | nil => rfl
    | cons y b => simp at h
  | cons x a ih =>
    cases b with
    | nil => simp at h
    | cons y b =>
      simp only [List.map_cons, List.cons.injEq] at h
      have hx := ha x (by simp)
      have hy := hb y (by simp)
      have e : x.toNat = y.toNat := by
        have := congrArg UInt8.toNat h.1
        rw [UInt8.toNat_ofNat', UInt8.toNat_ofNat'] at this
        omega
      have : x = y := by omega
      rw [this, ih (fun z hz => ha z (by simp [hz])) (fun z hz => hb z (by simp [hz])) h.2]
theorem be_isB (v : Int) : ∀ j, isB (be v j)
  | 0 => fun b hb => by cases hb
  | j + 1 => fun b hb => by
    simp only [be, List.mem_cons] at hb
    rcases hb with rfl | hb
    · omega
    · exact be_isB v j b hb
theorem esc_isB : ∀ l, isB l → isB (esc l)
  | [], _ => fun b hb => by simp only [esc, List.mem_cons, List.not_mem_nil, or_false] at hb; omega
  | x :: r, h => fun b hb => by
    have hx := h x (by simp)
    have hr := esc_isB r (fun z hz => h z (by simp [hz]))
    simp only [esc, List.mem_cons] at hb
    rcases hb with rfl | hb
    · exact hx
    · split at hb
      · simp only [List.mem_cons] at hb
        rcases hb with rfl | hb
        · omega
        · exact hr b hb
      · exact hr b hb
theorem byts_isB (s : ByteArray) : isB (byts s) := fun b hb => by
  obtain ⟨u, _, rfl⟩ := List.mem_map.mp hb
  have := u.toNat_lt
  omega
theorem encV_isB (a : iV) : isB (encV a) := fun b hb => by
  unfold encV at hb
  simp only [List.mem_cons] at hb
  rcases hb with rfl | hb
  · omega
  · split at hb
    · simp only [List.mem_cons, List.not_mem_nil, or_false] at hb; omega
    · split at hb
      · exact be_isB _ _ b hb
      · split at hb
        · exact esc_isB _ (byts_isB _) b hb
        · cases hb
theorem encs_isB (l : List iV) : isB (encs l) := fun b hb => by
  obtain ⟨a, _, h⟩ := List.mem_flatMap.mp hb
  exact encV_isB a b h
open Classical in
noncomputable def tupOf (x : List Int) : List iV × Bool := if h : ∃ y, okT y = true ∧ encs y = x then (Classical.choose h, true) else ([], false)
theorem fin_none {x : List Int} (hB : isB x) (h : ¬ ∃ y, okT y = true ∧ encs y = x) (y : List iV) : finT x y = ([], false) := by
  unfold finT
  refine if_neg fun h2 => h ⟨y, h2.1, ?_⟩
  have e := h2.2
  unfold tbytes at e
  rw [if_pos h2.1] at e
  exact strs_inj (encs_isB y) hB e
theorem impl_TupleOf_ev (x : List Int) (hx : x.length ≤ 1048576) (hB : isB x) : Ev (fun k => impl_TupleOf.f k x) (tupOf x) := by
  by_cases h : ∃ y, okT y = true ∧ encs y = x
  · have e : tupOf x = (Classical.choose h, true) := dif_pos h
    have hc := Classical.choose_spec h
    have := impl_parse_ev _ hc.1
    rw [hc.2] at this
    rw [e]
    exact this
  · have e : tupOf x = ([], false) := dif_neg h
    obtain ⟨y, hy⟩ := impl_total x 5 [] x rfl hx
    rw [fin_none hB h] at hy
    rw [e]
    exact hy
theorem spec_TupleOf_ev (x : List Int) (hx : x.length ≤ 1048576) (hB : isB x) : Ev (fun k => spec_TupleOf.f k x) (tupOf x) := by
  by_cases h : ∃ y, okT y = true ∧ encs y = x
  · have e : tupOf x = (Classical.choose h, true) := dif_pos h
    have hc := Classical.choose_spec h
    have := spec_parse_ev _ hc.1
    rw [hc.2] at this
    rw [e]
    exact this
  · have e : tupOf x = ([], false) := dif_neg h
    obtain ⟨r, h1, hy⟩ := spec_total x hx 5 [] 0 rfl
    have hr : r = ([], false) := by
      rcases h1 with h1 | ⟨y, h1⟩
      · exact h1
      · rw [h1]; exact fin_none hB h y
    rw [hr] at hy
    rw [e]
    exact hy
theorem tupOf_le (x : List Int) : (tupOf x).1.length ≤ 4 := by
  by_cases h : ∃ y, okT y = true ∧ encs y = x
  · have e : tupOf x = (Classical.choose h, true) := dif_pos h
    rw [e]
    exact (okT_mem (Classical.choose_spec h).1).2
  · have e : tupOf x = ([], false) := dif_neg h
    rw [e]
    exact Nat.zero_le _
end Go.Proofs.Ytcedikpkbgofhaa.P2
namespace Go.Proofs.Ytcedikpkbgofhaa.P2
open Go.RowKit Go.Proofs.YtcedikpkbgofhaaW.PrintWords Go.Proofs.YtcedikpkbgofhaaW.PrintLast Go.Proofs.YtcedikpkbgofhaaZ
theorem digit_str {d : Int} (h0 : 0 ≤ d) (h1 : d ≤ 9) : strOfNums [(wrap64 (48 + d)) % 256] = ⟨#[UInt8.ofNat (48 + d.toNat)]⟩ := by
  have : d = 0 ∨ d = 1 ∨ d = 2 ∨ d = 3 ∨ d = 4 ∨ d = 5 ∨ d = 6 ∨ d = 7 ∨ d = 8 ∨ d = 9 := by omega
  rcases this with rfl | rfl | rfl | rfl | rfl | rfl | rfl | rfl | rfl | rfl <;> decide +kernel
theorem digit_enc {d : Int} (h0 : 0 ≤ d) (h1 : d ≤ 9) : Go.Utf8.encode (wrap32 (wrap64 (48 + d))) = ⟨#[UInt8.ofNat (48 + d.toNat)]⟩ := by
  have : d = 0 ∨ d = 1 ∨ d = 2 ∨ d = 3 ∨ d = 4 ∨ d = 5 ∨ d = 6 ∨ d = 7 ∨ d = 8 ∨ d = 9 := by omega
  rcases this with rfl | rfl | rfl | rfl | rfl | rfl | rfl | rfl | rfl | rfl <;> decide +kernel
def dgs (n : Nat) : ByteArray := if h : n < 10 then ⟨#[UInt8.ofNat (48 + n)]⟩ else dgs (n / 10) ++ ⟨#[UInt8.ofNat (48 + n % 10)]⟩
termination_by n
decreasing_by omega
theorem dgs_lt {n : Nat} (h : n < 10) : dgs n = ⟨#[UInt8.ofNat (48 + n)]⟩ := by rw [dgs, dif_pos h]
theorem dgs_ge {n : Nat} (h : ¬ n < 10) : dgs n = dgs (n / 10) ++ ⟨#[UInt8.ofNat (48 + n % 10)]⟩ := by rw [dgs, dif_neg h]
theorem dgs_size : ∀ (d n : Nat), n < 10 ^ (d + 1) → (dgs n).size ≤ d + 1 := by
  intro d
  induction d with
  | zero =>
    intro n h
    rw [dgs_lt (by simpa using h)]
    exact Nat.le_refl _
  | succ d ih =>
    intro n h
    by_cases hn : n < 10
    · rw [dgs_lt hn]; show 1 ≤ _; omega
    · rw [dgs_ge hn, ByteArray.size_append]
      have := ih (n / 10) (by rw [Nat.pow_succ] at h; omega)
      show _ + 1 ≤ _
      omega
def dstr (n : Int) : ByteArray := if n < 0 then ⟨#[45]⟩ ++ dgs n.natAbs else dgs n.natAbs
theorem dstr_size {n : Int} (h0 : -9223372036854775808 ≤ n) (h1 : n < 9223372036854775808) : (dstr n).size ≤ 20 := by
  have := dgs_size 18 n.natAbs (by omega)
  unfold dstr
  split
  · rw [ByteArray.size_append]; show 1 + _ ≤ _; omega
  · omega
theorem append_assoc_ (a b c : ByteArray) : a ++ b ++ c = a ++ (b ++ c) := ByteArray.append_assoc
theorem empty_append_ (a : ByteArray) : (⟨#[]⟩ : ByteArray) ++ a = a := ByteArray.empty_append
theorem append_empty_ (a : ByteArray) : a ++ (⟨#[]⟩ : ByteArray) = a := ByteArray.append_empty
theorem tdiv_pos (m : Nat) : Int.tdiv (m : Int) 10 = ((m / 10 : Nat) : Int) := rfl
theorem tdiv_neg (m : Nat) : Int.tdiv (-(m : Int)) 10 = -((m / 10 : Nat) : Int) := by rw [Int.neg_tdiv]; rfl
theorem tmod_pos (m : Nat) : Int.tmod (m : Int) 10 = ((m % 10 : Nat) : Int) := rfl
theorem tmod_neg (m : Nat) : Int.tmod (-(m : Int)) 10 = -((m % 10 : Nat) : Int) := by rw [Int.neg_tmod]; rfl
theorem spec_loop (b : Bool) : ∀ (d m : Nat) (neg : Bool) (out : ByteArray), m < 10 ^ d → m ≤ 9223372036854775808 → (neg = false → m < 9223372036854775808) → out.size + d ≤ 100 →
    Ev (fun k => spec_Digits.l0 k (if neg then -(m : Int) else (m : Int)) b out) ((if b then (⟨#[45]⟩ : ByteArray) else ⟨#[]⟩) ++ ((if m = 0 then ⟨#[]⟩ else dgs m) ++ out)) := by
  intro d
  induction d with
  | zero =>
    intro m neg out h _ _ hs
    obtain rfl : m = 0 := by simpa using h
    refine Ev.shift ?_
    have e : (if neg then -((0 : Nat) : Int) else ((0 : Nat) : Int)) = 0 := by cases neg <;> rfl
    simp only [e, spec_Digits.l0, if_true, empty_append_]
    cases b with
    | true =>
      have : 1 + out.size ≤ 9223372036854775807 := by omega
      simp only [this, if_true]
      exact Ev.now _
    | false =>
      simp only [Bool.false_eq_true, if_false, empty_append_]
      exact Ev.now _
  | succ d ih =>
    intro m neg out h hm hn hs
    by_cases h0 : m = 0
    · subst h0
      refine Ev.shift ?_
      have e : (if neg then -((0 : Nat) : Int) else ((0 : Nat) : Int)) = 0 := by cases neg <;> rfl
      simp only [e, spec_Digits.l0, if_true, empty_append_]
      cases b with
      | true =>
        have : 1 + out.size ≤ 9223372036854775807 := by omega
        simp only [this, if_true]
        exact Ev.now _
      | false =>
        simp only [Bool.false_eq_true, if_false, empty_append_]
        exact Ev.now _
    · have hd := ih (m / 10) neg (⟨#[UInt8.ofNat (48 + m % 10)]⟩ ++ out) (by rw [Nat.pow_succ] at h; omega) (by omega) (by intro h; have := hn h; omega)
        (by rw [ByteArray.size_append]; show 1 + _ + _ ≤ _; omega)
      have hsz : (⟨#[UInt8.ofNat (48 + m % 10)]⟩ : ByteArray).size + out.size ≤ 9223372036854775807 := by show 1 + out.size ≤ _; omega
      have hdig : strOfNums [(wrap64 (48 + ((m % 10 : Nat) : Int))) % 256] = ⟨#[UInt8.ofNat (48 + m % 10)]⟩ := digit_str (by omega) (by omega)
      have hres : (if m / 10 = 0 then (⟨#[]⟩ : ByteArray) else dgs (m / 10)) ++ (⟨#[UInt8.ofNat (48 + m % 10)]⟩ ++ out) = (if m = 0 then ⟨#[]⟩ else dgs m) ++ out := by
        rw [if_neg h0]
        by_cases h9 : m < 10
        · rw [if_pos (by omega), dgs_lt h9, empty_append_, Nat.mod_eq_of_lt h9]
        · rw [if_neg (by omega), dgs_ge h9, append_assoc_]
      rw [hres] at hd
      refine Ev.shift ?_
      cases neg with
      | false =>
        have hm' := hn rfl
        have c1 : ¬ ((m : Int) = 0) := by omega
        have c2 : ¬ (((m % 10 : Nat) : Int) < 0) := by omega
        have c3 : wrap64 ((m / 10 : Nat) : Int) = ((m / 10 : Nat) : Int) := w64 (by omega) (by omega)
        simp only [Bool.false_eq_true, if_false] at hd
        simp only [Bool.false_eq_true, if_false, spec_Digits.l0, c1, tmod_pos, c2, Option.bind_some, hdig, hsz, if_true, tdiv_pos, c3]
        exact hd
      | true =>
        have c1 : ¬ (-(m : Int) = 0) := by omega
        have c3 : wrap64 (-((m / 10 : Nat) : Int)) = -((m / 10 : Nat) : Int) := w64 (by omega) (by omega)
        simp only [if_true] at hd
        by_cases hz : m % 10 = 0
        · have c2 : ¬ (-((m % 10 : Nat) : Int) < 0) := by omega
          have hdig' : strOfNums [(wrap64 (48 + -((m % 10 : Nat) : Int))) % 256] = ⟨#[UInt8.ofNat (48 + m % 10)]⟩ := by rw [hz]; decide +kernel
          simp only [if_true, spec_Digits.l0, c1, if_false, tmod_neg, c2, Option.bind_some, hdig', hsz, tdiv_neg, c3]
          exact hd
        · have c2 : -((m % 10 : Nat) : Int) < 0 := by omega
          have c4 : wrap64 (-(-((m % 10 : Nat) : Int))) = ((m % 10 : Nat) : Int) := by rw [Int.neg_neg]; exact w64 (by omega) (by omega)
          simp only [if_true, spec_Digits.l0, c1, if_false, tmod_neg, c2, c4, Option.bind_some, hdig, hsz, tdiv_neg, c3]
          exact hd
theorem spec_Digits_ev (n : Int) (h0 : -9223372036854775808 ≤ n) (h1 : n < 9223372036854775808) : Ev (fun k => spec_Digits.f k n) (dstr n) := by
  by_cases hz : n = 0
  · subst hz
    simp only [spec_Digits.f, if_true]
    refine Ev.val ?_
    unfold dstr
    rw [if_neg (by omega)]
    exact (dgs_lt (n := 0) (by decide)).symm
  · have h := spec_loop (decide (n < 0)) 19 n.natAbs (decide (n < 0)) ⟨#[]⟩ (by omega) (by omega) (by intro h; have : ¬ n < 0 := of_decide_eq_false h; omega) (by show 0 + 19 ≤ 100; omega)
    have e : (if decide (n < 0) = true then -(n.natAbs : Int) else (n.natAbs : Int)) = n := by
      by_cases hn : n < 0
      · rw [if_pos (decide_eq_true hn)]; omega
      · rw [if_neg (by simpa using hn)]; omega
    rw [e] at h
    simp only [spec_Digits.f, hz, if_false]
    refine h.to ?_
    unfold dstr
    rw [append_empty_, if_neg (show ¬ n.natAbs = 0 by omega)]
    by_cases hn : n < 0
    · rw [if_pos (decide_eq_true hn), if_pos hn]
    · rw [if_neg (by simpa using hn), if_neg hn, empty_append_]
theorem impl_Digits_nat : ∀ (d m : Nat), m < 10 ^ (d + 1) → m < 9223372036854775808 → d ≤ 30 → Ev (fun k => impl_Digits.f k (m : Int)) (dgs m) := by
  intro d
  induction d with
  | zero =>
    intro m h hm _
    have h9 : m < 10 := by simpa using h
    refine Ev.shift ?_
    have c1 : ¬ ((m : Int) < 0) := by omega
    have c2 : (m : Int) < 10 := by omega
    simp only [impl_Digits.f, c1, if_false]
    refine Ev.shift ?_
    simp only [impl_Digits.j0, Bool.false_eq_true, c1, if_false, c2, if_true, digit_enc (d := (m : Int)) (by omega) (by omega)]
    refine Ev.val ?_
    rw [dgs_lt h9, Int.toNat_natCast]
  | succ d ih =>
    intro m h hm hd
    by_cases h9 : m < 10
    · exact ih m (by have : 10 ^ 1 ≤ 10 ^ (d + 1) := Nat.pow_le_pow_right (by decide) (by omega); omega) hm (by omega)
    · have h1 := ih (m / 10) (by rw [Nat.pow_succ] at h; omega) (by omega) (by omega)
      have hs := dgs_size 18 (m / 10) (by omega)
      refine Ev.shift ?_
      have c1 : ¬ ((m : Int) < 0) := by omega
      have c2 : ¬ ((m : Int) < 10) := by omega
      simp only [impl_Digits.f, c1, if_false]
      refine Ev.shift ?_
      have e1 : wrap64 ((m / 10 : Nat) : Int) = ((m / 10 : Nat) : Int) := w64 (by omega) (by omega)
      have e2 : Go.Utf8.encode (wrap32 (wrap64 (48 + ((m % 10 : Nat) : Int)))) = ⟨#[UInt8.ofNat (48 + m % 10)]⟩ := digit_enc (by omega) (by omega)
      have c3 : (dgs (m / 10)).size + (⟨#[UInt8.ofNat (48 + m % 10)]⟩ : ByteArray).size ≤ 9223372036854775807 := by show _ + 1 ≤ _; omega
      simp only [impl_Digits.j0, Bool.false_eq_true, c1, if_false, c2, tdiv_pos, tmod_pos, e1, e2]
      refine Ev.bind h1 ?_
      simp only [c3, if_true]
      exact Ev.val (dgs_ge h9).symm
theorem impl_Digits_ev (n : Int) (h0 : -9223372036854775808 ≤ n) (h1 : n < 9223372036854775808) : Ev (fun k => impl_Digits.f k n) (dstr n) := by
  by_cases hn : n < 0
  · obtain ⟨m, rfl⟩ : ∃ m : Nat, n = -(m : Int) := ⟨n.natAbs, by omega⟩
    have ed : dstr (-(m : Int)) = ⟨#[45]⟩ ++ dgs m := by unfold dstr; rw [if_pos hn, Int.natAbs_neg, Int.natAbs_natCast]
    rw [ed]
    refine Ev.shift ?_
    simp only [impl_Digits.f, hn, if_true]
    refine Ev.shift ?_
    by_cases h9 : -(m : Int) > -10
    · have hd := impl_Digits_nat 18 m (by omega) (by omega) (by decide)
      have hs := dgs_size 18 m (by omega)
      have e1 : wrap64 (-(-(m : Int))) = (m : Int) := by rw [Int.neg_neg]; exact w64 (by omega) (by omega)
      have c : 1 + (dgs m).size ≤ 9223372036854775807 := by omega
      simp only [impl_Digits.j0, h9, decide_true, if_true, e1]
      refine Ev.bind hd ?_
      simp only [c, if_true]
      exact Ev.now _
    · have hq : Ev (fun k => impl_Digits.f k (-((m / 10 : Nat) : Int))) (dstr (-((m / 10 : Nat) : Int))) := impl_Digits_ev (-((m / 10 : Nat) : Int)) (by omega) (by omega)
      have hr := impl_Digits_nat 18 (m % 10) (by omega) (by omega) (by decide)
      have e0 : dstr (-((m / 10 : Nat) : Int)) = ⟨#[45]⟩ ++ dgs (m / 10) := by unfold dstr; rw [if_pos (by omega), Int.natAbs_neg, Int.natAbs_natCast]
      have hs := dgs_size 18 (m / 10) (by omega)
      have hs' := dgs_size 0 (m % 10) (by simp; omega)
      have e1 : wrap64 (-((m / 10 : Nat) : Int)) = -((m / 10 : Nat) : Int) := w64 (by omega) (by omega)
      have e2 : wrap64 (-(-((m % 10 : Nat) : Int))) = ((m % 10 : Nat) : Int) := by rw [Int.neg_neg]; exact w64 (by omega) (by omega)
      have c : (dstr (-((m / 10 : Nat) : Int))).size + (dgs (m % 10)).size ≤ 9223372036854775807 := by
        rw [e0, ByteArray.size_append]; show 1 + _ + _ ≤ _; omega
      simp only [impl_Digits.j0, h9, decide_false, Bool.false_eq_true, hn, if_false, if_true, tdiv_neg, tmod_neg, e1, e2]
      refine Ev.bind hq (Ev.bind hr ?_)
      simp only [c, if_true]
      refine Ev.val ?_
      rw [e0, append_assoc_, dgs_ge (n := m) (by omega), dgs_lt (show m % 10 < 10 by omega)]
  · obtain ⟨m, rfl⟩ : ∃ m : Nat, n = (m : Int) := ⟨n.toNat, by omega⟩
    have ed : dstr (m : Int) = dgs m := by unfold dstr; rw [if_neg hn, Int.natAbs_natCast]
    rw [ed]
    exact impl_Digits_nat 18 m (by omega) (by omega) (by decide)
termination_by n.natAbs
decreasing_by omega
def hexA : ByteArray := ⟨#[48, 49, 50, 51, 52, 53, 54, 55, 56, 57, 97, 98, 99, 100, 101, 102]⟩
def hx (s : ByteArray) (i : Int) : List Int := [bt hexA (bt s i / 16), bt hexA (Go.bits .and .u8 (bt s i) 15)]
def hexF (s : ByteArray) : Nat → Nat → List Int
  | _, 0 => []
  | i, n + 1 => hx s i ++ hexF s (i + 1) n
theorem hexF_length (s : ByteArray) : ∀ n i, (hexF s i n).length = 2 * n
  | 0, _ => rfl
  | n + 1, i => by simp only [hexF, hx, List.length_append, hexF_length s n, List.length_cons, List.length_nil]; omega
def vtext (a : iV) : ByteArray :=
  if okV a = true then
    if a.f0 = 0 then ⟨#[110, 117, 108, 108]⟩ else if a.f0 = 1 then (if a.f1 = 0 then ⟨#[110, 111]⟩ else ⟨#[121, 101, 115]⟩)
    else if a.f0 = 2 then dstr a.f1 else strOfNums (34 :: hexF a.f2 0 a.f2.size)
  else ⟨#[98, 97, 100]⟩
theorem okV_kinds {a : iV} (h : okV a = true) : a.f0 = 0 ∨ (a.f0 = 1 ∧ 0 ≤ a.f1 ∧ a.f1 ≤ 1) ∨ (a.f0 = 2 ∧ -1000000000000 ≤ a.f1 ∧ a.f1 ≤ 1000000000000) ∨ (a.f0 = 3 ∧ a.f1 = 0 ∧ a.f2.size ≤ 20) := by
  simp only [okV, Bool.or_eq_true, Bool.and_eq_true, beq_iff_eq, decide_eq_true_eq] at h
  omega
theorem vtext_size (a : iV) : (vtext a).size ≤ 100 := by
  unfold vtext
  split
  · rename_i h
    have hk := okV_kinds h
    split
    · show 4 ≤ _; omega
    · split
      · split
        · show 2 ≤ _; omega
        · show 3 ≤ _; omega
      · split
        · have := dstr_size (n := a.f1) (by omega) (by omega); omega
        · rw [strOfNums_size, List.length_cons, hexF_length]; omega
  · show 3 ≤ _; omega
theorem spec_hex_ev (a b : Int) (s : ByteArray) (hs : s.size ≤ 20) : ∀ (n i : Nat) (out : List Int), i + n = s.size → out.length ≤ 1 + 2 * i →
    Ev (fun k => spec_ValueText.l0 k hexA out (i : Int) a b s) (strOfNums (out ++ hexF s i n)) := by
  intro n
  induction n with
  | zero =>
    intro i out hi hl
    refine Ev.shift ?_
    have h : ¬ ((i : Int) < (s.size : Int)) := by omega
    simp only [spec_ValueText.l0, h, if_false, hexF, List.append_nil]
    exact Ev.now _
  | succ n ih =>
    intro i out hi hl
    have hr := bt_range s (i : Int)
    have h1 : (i : Int) < (s.size : Int) := by omega
    have h2 : (0 : Int) ≤ (i : Int) := by omega
    have h3 : 0 ≤ bt s (i : Int) / 16 := by omega
    have h4 : bt s (i : Int) / 16 < (hexA.size : Int) := by show _ < (16 : Int); omega
    have e := Go.u8_and15 (x := bt s (i : Int)) (by omega) (by omega)
    have h5 : 0 ≤ Go.bits .and .u8 (bt s (i : Int)) 15 := by rw [e]; omega
    have h6 : Go.bits .and .u8 (bt s (i : Int)) 15 < (hexA.size : Int) := by rw [e]; show _ < (16 : Int); omega
    have h7 : out.length + (hx s (i : Int)).length < 140737488355328 := by simp only [hx, List.length_cons, List.length_nil]; omega
    refine Ev.shift ?_
    simp only [spec_ValueText.l0, h1, h2, h3, h4, h5, h6, if_true, Option.bind_some]
    have hh : (if out.length + (hx s (i : Int)).length < 140737488355328 then 1 else 2) = 1 := if_pos h7
    refine Ev.pos (p := out.length + (hx s (i : Int)).length < 140737488355328) h7 ?_
    rw [succ64 (show i < s.size by omega) (by omega)]
    have := ih (i + 1) (out ++ hx s (i : Int)) (by omega) (by simp only [hx, List.length_append, List.length_cons, List.length_nil]; omega)
    rw [List.append_assoc] at this
    exact this
theorem impl_hex_ev (a b : Int) (s : ByteArray) (hs : s.size ≤ 20) : ∀ (n i : Nat) (out : List Int), i + n = s.size → out.length ≤ 1 + 2 * i →
    Ev (fun k => impl_ValueText.l0 k out (s.size : Int) (i : Int) a b s) (strOfNums (out ++ hexF s i n)) := by
  intro n
  induction n with
  | zero =>
    intro i out hi hl
    refine Ev.shift ?_
    have h : ¬ ((i : Int) < (s.size : Int)) := by omega
    simp only [impl_ValueText.l0, h, if_false, hexF, List.append_nil]
    exact Ev.now _
  | succ n ih =>
    intro i out hi hl
    have hr := bt_range s (i : Int)
    have h1 : (i : Int) < (s.size : Int) := by omega
    have h2 : (0 : Int) ≤ (i : Int) := by omega
    have h3 : 0 ≤ bt s (i : Int) / 16 := by omega
    have h4 : bt s (i : Int) / 16 < 16 := by omega
    have e := Go.u8_and15 (x := bt s (i : Int)) (by omega) (by omega)
    have h5 : 0 ≤ Go.bits .and .u8 (bt s (i : Int)) 15 := by rw [e]; omega
    have h6 : Go.bits .and .u8 (bt s (i : Int)) 15 < 16 := by rw [e]; omega
    have h7 : out.length + (hx s (i : Int)).length < 140737488355328 := by simp only [hx, List.length_cons, List.length_nil]; omega
    refine Ev.shift ?_
    simp only [impl_ValueText.l0, h1, h2, h3, h4, h5, h6, if_true, Option.bind_some]
    refine Ev.pos (p := out.length + (hx s (i : Int)).length < 140737488355328) h7 ?_
    rw [succ64 (show i < s.size by omega) (by omega)]
    have := ih (i + 1) (out ++ hx s (i : Int)) (by omega) (by simp only [hx, List.length_append, List.length_cons, List.length_nil]; omega)
    rw [List.append_assoc] at this
    exact this
theorem yn_get {b : Int} (h0 : 0 ≤ b) (h1 : b ≤ 1) : rdOf ByteArray.empty [(⟨#[110, 111]⟩ : ByteArray), (⟨#[121, 101, 115]⟩ : ByteArray)] b = if b = 0 then ⟨#[110, 111]⟩ else ⟨#[121, 101, 115]⟩ := by
  have : b = 0 ∨ b = 1 := by omega
  rcases this with rfl | rfl <;> rfl
theorem spec_ValueText_ev (a : iV) : Ev (fun k => spec_ValueText.f k a.f0 a.f1 a.f2) (vtext a) := by
  simp only [spec_ValueText.f, spec_ValueOk_eq, Option.bind_some, vtext]
  by_cases h : okV a = true
  · simp only [h, if_true]
    rcases okV_kinds h with k0 | ⟨k0, k1, k2⟩ | ⟨k0, k1, k2⟩ | ⟨k0, k1, k2⟩
    · simp only [k0, show ¬ (0 : Int) = 1 by decide, show ¬ (0 : Int) = 2 by decide, show ¬ (0 : Int) = 3 by decide, if_true, if_false]
      exact Ev.now _
    · have c : a.f1 < ((2 : Nat) : Int) := by omega
      simp only [k0, show ¬ (1 : Int) = 0 by decide, if_true, if_false, k1, List.length_cons, List.length_nil, Nat.zero_add, Nat.reduceAdd, c, yn_get k1 k2]
      exact Ev.now _
    · simp only [k0, show ¬ (2 : Int) = 0 by decide, show ¬ (2 : Int) = 1 by decide, if_true, if_false]
      exact Ev.bind (spec_Digits_ev a.f1 (by omega) (by omega)) (Ev.now _)
    · simp only [k0, show ¬ (3 : Int) = 0 by decide, show ¬ (3 : Int) = 1 by decide, show ¬ (3 : Int) = 2 by decide, if_true, if_false]
      exact spec_hex_ev 3 a.f1 a.f2 k2 a.f2.size 0 [34] (by omega) (by simp)
  · simp only [h, if_false]
    exact Ev.now _
theorem impl_ValueText_ev (a : iV) : Ev (fun k => impl_ValueText.f k a.f0 a.f1 a.f2) (vtext a) := by
  simp only [impl_ValueText.f, impl_ValueOk_eq, Option.bind_some, vtext]
  by_cases h : okV a = true
  · simp only [h, if_true]
    rcases okV_kinds h with k0 | ⟨k0, k1, k2⟩ | ⟨k0, k1, k2⟩ | ⟨k0, k1, k2⟩
    · simp only [k0, show ¬ (0 : Int) = 1 by decide, show ¬ (0 : Int) = 2 by decide, show ¬ (0 : Int) = 3 by decide, if_true, if_false]
      exact Ev.now _
    · simp only [k0, show ¬ (1 : Int) = 0 by decide, show ¬ (1 : Int) = 2 by decide, if_true, if_false]
      refine Ev.shift ?_
      by_cases k3 : a.f1 = 0
      · simp only [impl_ValueText.j0, k3, beq_self_eq_true, if_true]
        exact Ev.now _
      · simp only [impl_ValueText.j0, beq_iff_eq, k3, if_true, if_false]
        exact Ev.now _
    · simp only [k0, show ¬ (2 : Int) = 0 by decide, show ¬ (2 : Int) = 1 by decide, if_true, if_false]
      exact Ev.bind (impl_Digits_ev a.f1 (by omega) (by omega)) (Ev.now _)
    · simp only [k0, show ¬ (3 : Int) = 0 by decide, show ¬ (3 : Int) = 1 by decide, show ¬ (3 : Int) = 2 by decide, if_true, if_false]
      refine Ev.shift ?_
      simp only [impl_ValueText.j0, Bool.false_eq_true, show ¬ (3 : Int) = 1 by decide, if_false]
      exact impl_hex_ev 3 a.f1 a.f2 k2 a.f2.size 0 [34] (by omega) (by simp)
  · simp only [h, if_false]
    exact Ev.now _
def jn (sep : ByteArray) (l : List ByteArray) : ByteArray := ⟨(Lib.join (l.map (·.data.toList)) sep.data.toList).toArray⟩
theorem jn_nil (sep : ByteArray) : jn sep [] = ⟨#[]⟩ := rfl
theorem ba_ext {a b : ByteArray} (h : a.data.toList = b.data.toList) : a = b := by
  cases a; cases b; congr 1; exact Array.toList_inj.mp h
theorem jn_data (sep : ByteArray) (l : List ByteArray) : (jn sep l).data.toList = Lib.join (l.map (·.data.toList)) sep.data.toList := rfl
theorem app_data (a b : ByteArray) : (a ++ b).data.toList = a.data.toList ++ b.data.toList := by rw [ByteArray.data_append, Array.toList_append]
theorem jn_one (sep x : ByteArray) : jn sep [x] = x := by
  apply ba_ext; rw [jn_data]; simp only [List.map_cons, List.map_nil]; exact Lib.join_one _ _
theorem jn_snoc (sep : ByteArray) (y : ByteArray) (l : List ByteArray) (x : ByteArray) : jn sep ((y :: l) ++ [x]) = jn sep (y :: l) ++ sep ++ x := by
  apply ba_ext
  simp only [app_data, jn_data, List.cons_append, List.map_cons, List.map_append, List.map_nil, Lib.join_cons, Lib.joinTail, List.flatten_append, List.flatten_cons, List.flatten_nil, List.append_nil, List.append_assoc]
theorem jn_snoc' (sep : ByteArray) (l : List ByteArray) (x : ByteArray) (h : l ≠ []) : jn sep (l ++ [x]) = jn sep l ++ sep ++ x := by
  cases l with
  | nil => exact absurd rfl h
  | cons y l => exact jn_snoc sep y l x
theorem jn_cons (sep y x : ByteArray) (l : List ByteArray) : jn sep (y :: x :: l) = y ++ (sep ++ jn sep (x :: l)) := by
  apply ba_ext
  simp only [app_data, jn_data, List.map_cons, Lib.join_cons, Lib.joinTail, List.flatten_cons, List.append_assoc]
theorem jn_size (sep : ByteArray) (M : Nat) : ∀ l : List ByteArray, (∀ x ∈ l, x.size ≤ M) → (jn sep l).size ≤ (M + sep.size) * l.length
  | [], _ => by rw [jn_nil]; exact Nat.zero_le _
  | [x], h => by rw [jn_one]; have := h x (by simp); simp only [List.length_cons, List.length_nil]; omega
  | x :: y :: l, h => by
    rw [jn_cons, ByteArray.size_append, ByteArray.size_append]
    have h1 := h x (by simp)
    have h2 := jn_size sep M (y :: l) (fun z hz => h z (by simp at hz ⊢; right; exact hz))
    have e : (M + sep.size) * (x :: y :: l).length = (M + sep.size) * (y :: l).length + (M + sep.size) := by simp only [List.length_cons, Nat.mul_add, Nat.mul_one]
    rw [e]
    omega
theorem join_ev (sep : ByteArray) (l : List ByteArray) (h1 : (jn sep l).size ≤ 140737488355328) (h2 : l.length ≤ 140737488355328) : strings_Join.f l sep = some (jn sep l) := by
  have h1' : (Lib.join (l.map (·.data.toList)) sep.data.toList).length ≤ 140737488355328 := by rw [← jn_data, Array.length_toList]; exact h1
  simp only [strings_Join.f]
  exact if_pos ⟨h1', h2⟩
theorem take_one {α : Type _} {l : List α} {i : Nat} (h : i < l.length) : l.take (i + 1) = l.take i ++ [l[i]] := (List.take_append_getElem h).symm
def comma : ByteArray := ⟨#[44]⟩
def ttext (l : List iV) : ByteArray := jn comma (l.map vtext)
theorem ttext_size (l : List iV) : (ttext l).size ≤ 101 * l.length := by
  have := jn_size comma 100 (l.map vtext) (by intro x hx; obtain ⟨a, _, rfl⟩ := List.mem_map.mp hx; exact vtext_size a)
  rw [List.length_map] at this
  exact this
theorem rdV_tt {l : List iV} {i : Nat} (h : i < l.length) : rd_T37 l (i : Int) = l[i] := getD_get (List.getElem?_eq_getElem h)
theorem ttext_take {l : List iV} {i : Nat} (h : i < l.length) : ttext (l.take (i + 1)) = if i > 0 then ttext (l.take i) ++ comma ++ vtext l[i] else ttext (l.take i) ++ vtext l[i] := by
  rw [take_one h]
  unfold ttext
  rw [List.map_append, List.map_cons, List.map_nil]
  split
  · rename_i hi
    refine jn_snoc' _ _ _ ?_
    intro e
    have e2 : (List.map vtext (List.take i l)).length = 0 := by rw [e]; rfl
    rw [List.length_map, List.length_take] at e2
    omega
  · have : i = 0 := by omega
    subst this
    simp only [List.take_zero, List.map_nil, List.nil_append, jn_one, jn_nil]
    exact ByteArray.empty_append.symm
theorem spec_TupleText_ev (l : List iV) (hl : l.length ≤ 1048576) : Ev (fun k => spec_TupleText.f k l) (ttext l) := by
  simp only [spec_TupleText.f]
  refine (back (n := l.length) (Q := fun i => Ev (fun k => spec_TupleText.l0 k l (ttext (l.take i)) (i : Int)) (ttext l)) ?_ (fun i hi ih => ?_) 0 (Nat.zero_le _))
  · refine Ev.shift ?_
    simp only [spec_TupleText.l0, Int.lt_irrefl, if_false, List.take_length]
    exact Ev.now _
  · have h0 : (0 : Int) ≤ (i : Int) := by omega
    have h1 : (i : Int) < (l.length : Int) := by omega
    have hs := ttext_size (l.take i)
    have hv := vtext_size l[i]
    rw [List.length_take] at hs
    refine Ev.shift ?_
    have e := ttext_take hi
    by_cases h2 : i > 0
    · have h3 : (i : Int) > 0 := by omega
      have h4 : (ttext (l.take i)).size + 1 ≤ 9223372036854775807 := by omega
      have h5 : (ttext (l.take i) ++ (⟨#[44]⟩ : ByteArray)).size + (vtext l[i]).size ≤ 9223372036854775807 := by rw [ByteArray.size_append]; show _ + 1 + _ ≤ _; omega
      rw [if_pos h2] at e
      rw [e] at ih
      simp only [spec_TupleText.l0, h1, h3, h4, h0, if_true, rdV_tt hi]
      refine Ev.bind (spec_ValueText_ev l[i]) ?_
      simp only [h5, if_true, succ64 hi (by omega)]
      exact ih
    · have h3 : ¬ (i : Int) > 0 := by omega
      have h5 : (ttext (l.take i)).size + (vtext l[i]).size ≤ 9223372036854775807 := by omega
      rw [if_neg h2] at e
      rw [e] at ih
      simp only [spec_TupleText.l0, h1, h3, h0, if_true, if_false, rdV_tt hi]
      refine Ev.bind (spec_ValueText_ev l[i]) ?_
      simp only [h5, if_true, succ64 hi (by omega)]
      exact ih
theorem impl_TupleText_ev (l : List iV) (hl : l.length ≤ 1048576) : Ev (fun k => impl_TupleText.f k l) (ttext l) := by
  simp only [impl_TupleText.f]
  refine (back (n := l.length) (Q := fun i => Ev (fun k => impl_TupleText.l0 k ((l.take i).map vtext) l (l.length : Int) (i : Int)) (ttext l)) ?_ (fun i hi ih => ?_) 0 (Nat.zero_le _))
  · refine Ev.shift ?_
    have hs := ttext_size l
    simp only [impl_TupleText.l0, Int.lt_irrefl, if_false, List.take_length]
    have e : strings_Join.f (l.map vtext) ⟨#[44]⟩ = some (ttext l) := join_ev comma (l.map vtext) (by show (ttext l).size ≤ _; omega) (by rw [List.length_map]; omega)
    rw [e, Option.bind_some]
    exact Ev.now _
  · have h0 : (0 : Int) ≤ (i : Int) := by omega
    have h1 : (i : Int) < (l.length : Int) := by omega
    refine Ev.shift ?_
    have h5 : ((l.take i).map vtext).length < 8796093022208 := by rw [List.length_map, List.length_take]; omega
    rw [take_one hi, List.map_append, List.map_cons, List.map_nil] at ih
    simp only [impl_TupleText.l0, h1, h0, if_true, rdV_tt hi]
    refine Ev.bind (impl_ValueText_ev l[i]) ?_
    simp only [h5, if_true, succ64 hi (by omega)]
    exact ih
end Go.Proofs.Ytcedikpkbgofhaa.P2
namespace Go.Proofs.Ytcedikpkbgofhaa.P2
open Go.Proofs.YtcedikpkbgofhaaZ Go.RowKit Go.Proofs.YtcedikpkbgofhaaW.PrintWords Go.Proofs.YtcedikpkbgofhaaW.PrintLast Go.Proofs.YtcedikpkbgofhaaW.PrintMore
attribute [local go_sem] max2_int min2_int max_two min_two max_three min_three max_four min_four   -- for this text's walks alone




end Go.Proofs.Ytcedikpkbgofhaa.P2
namespace Go.Proofs.Ytcedikpkbgofhaa.P2
open Go.Proofs.YtcedikpkbgofhaaZ Go.RowKit Go.Proofs.YtcedikpkbgofhaaW.PrintWords Go.Proofs.YtcedikpkbgofhaaW.PrintLast Go.Proofs.YtcedikpkbgofhaaW.PrintMore
attribute [local go_sem] max2_int min2_int max_two min_two max_three min_three max_four min_four   -- for this text's walks alone
attribute [local go_sem high] eqA37

end Go.Proofs.Ytcedikpkbgofhaa.P2
namespace Go.Proofs.Ytcedikpkbgofhaa.P2
open Go.RowKit Go.Proofs.YtcedikpkbgofhaaW.PrintWords Go.Proofs.YtcedikpkbgofhaaW.PrintLast Go.Proofs.YtcedikpkbgofhaaZ
theorem val_eq_iff (a b : iV) : a = b ↔ (a.f0 = b.f0 ∧ a.f1 = b.f1 ∧ a.f2.toList = b.f2.toList) := by
  constructor
  · intro h; subst h; exact ⟨rfl, rfl, rfl⟩
  · intro ⟨h0, h1, h2⟩
    cases a; cases b
    simp only at h0 h1 h2
    rw [ByteArray.toList_eq, ByteArray.toList_eq] at h2
    have h3 := Array.toList_inj.mp h2
    simp only [h0, h1]
    congr 1
    cases ‹ByteArray›; cases ‹ByteArray›
    congr 1
theorem sameTuple_ev (x y : List iV) (hx : x.length ≤ 9223372036854775807) : ∃ r : Bool, (r = true ↔ x = y) ∧ Ev (fun k => laws_sameTuple.f k x y) r := by
  simp only [laws_sameTuple.f]
  by_cases h : (x.length : Int) = (y.length : Int)
  · have hl : x.length = y.length := by omega
    simp only [h, if_true]
    have key : ∀ i : Nat, i ≤ x.length → ∃ r : Bool, (r = true ↔ x.drop i = y.drop i) ∧ Ev (fun k => laws_sameTuple.l0 k x y (i : Int)) r := by
      refine back ?_ fun i hi ih => ?_
      · refine ⟨true, ?_, Ev.shift ?_⟩
        · rw [List.drop_length, List.drop_eq_nil_of_le (by omega)]; simp
        · simp only [laws_sameTuple.l0, Int.lt_irrefl, if_false]
          exact Ev.now _
      · obtain ⟨r, h1, h2⟩ := ih
        have hy : i < y.length := by omega
        have c0 : (0 : Int) ≤ (i : Int) := by omega
        have c1 : (i : Int) < (x.length : Int) := by omega
        have c2 : (i : Int) < (y.length : Int) := by omega
        have ex : rd_T37 x (i : Int) = x[i] := getD_get (List.getElem?_eq_getElem hi)
        have ey : rd_T37 y (i : Int) = y[i] := getD_get (List.getElem?_eq_getElem hy)
        have hd : (x.drop i = y.drop i) ↔ (x[i] = y[i] ∧ x.drop (i + 1) = y.drop (i + 1)) := by
          rw [List.drop_eq_getElem_cons hi, List.drop_eq_getElem_cons hy]
          exact List.cons_eq_cons
        by_cases he : x[i] = y[i]
        · refine ⟨r, ?_, Ev.shift ?_⟩
          · rw [h1, hd]; simp [he]
          · simp only [laws_sameTuple.l0, c0, c1, c2, if_true, ex, ey, he, beq_self_eq_true, Bool.not_true, Bool.or_false, Bool.false_eq_true, if_false, succ64 hi hx]
            exact h2
        · refine ⟨false, ?_, Ev.shift ?_⟩
          · rw [hd]; simp [he]
          · have hne : (!(x[i].f0 == y[i].f0) || (!(x[i].f1 == y[i].f1) || !(x[i].f2.toList == y[i].f2.toList))) = true := by
              rw [val_eq_iff] at he
              cases c : (x[i].f0 == y[i].f0)
              · simp
              · cases c' : (x[i].f1 == y[i].f1)
                · simp
                · cases c'' : (x[i].f2.toList == y[i].f2.toList)
                  · simp
                  · exact absurd ⟨by simpa using c, by simpa using c', by simpa using c''⟩ he
            simp only [laws_sameTuple.l0, c0, c1, c2, if_true, ex, ey, hne]
            exact Ev.now _
    exact key 0 (Nat.zero_le _)
  · refine ⟨false, ?_, ?_⟩
    · constructor
      · intro h; cases h
      · intro e; rw [e] at h; exact absurd rfl h
    · simp only [h, if_false]
      exact Ev.now _
section
variable {α β : Type}
def Got (o : Option α) (P : α → Prop) : Prop := ∃ a, o = some a ∧ P a
theorem Got.bind {o : Option α} {f : α → Option β} {P : α → Prop} {Q : β → Prop} (h : Got o P) (hf : ∀ a, P a → Got (f a) Q) : Got (o.bind f) Q := by
  obtain ⟨a, rfl, hp⟩ := h
  exact hf a hp
theorem Got.now {a : α} {P : α → Prop} (h : P a) : Got (some a) P := ⟨a, rfl, h⟩
theorem Got.pos {p : Prop} [Decidable p] {a b : Option α} {P : α → Prop} (hp : p) (h : Got a P) : Got (if p then a else b) P := by rw [if_pos hp]; exact h
theorem Got.neg {p : Prop} [Decidable p] {a b : Option α} {P : α → Prop} (hp : ¬ p) (h : Got b P) : Got (if p then a else b) P := by rw [if_neg hp]; exact h
theorem Got.ite {p : Prop} [Decidable p] {a b : Option α} {P : α → Prop} (h1 : p → Got a P) (h2 : ¬ p → Got b P) : Got (if p then a else b) P := by
  by_cases h : p
  · exact Got.pos h (h1 h)
  · exact Got.neg h (h2 h)
theorem Got.mono {o : Option α} {P Q : α → Prop} (h : Got o P) (f : ∀ a, P a → Q a) : Got o Q := by obtain ⟨a, h1, h2⟩ := h; exact ⟨a, h1, f a h2⟩
def EvG (g : Nat → Option α) (P : α → Prop) : Prop := ∃ a, Ev g a ∧ P a
theorem EvG.of_got {o : Option α} {P : α → Prop} (h : Got o P) : EvG (fun _ => o) P := by obtain ⟨a, rfl, hp⟩ := h; exact ⟨a, Ev.now _, hp⟩
theorem EvG.of_ev {g : Nat → Option α} {P : α → Prop} {a : α} (h : Ev g a) (hp : P a) : EvG g P := ⟨a, h, hp⟩
theorem EvG.now {a : α} {P : α → Prop} (h : P a) : EvG (fun _ => some a) P := ⟨a, Ev.now _, h⟩
theorem EvG.bind {g : Nat → Option α} {f : α → Nat → Option β} {P : α → Prop} {Q : β → Prop} (h : EvG g P) (hf : ∀ a, P a → EvG (f a) Q) : EvG (fun k => (g k).bind fun a => f a k) Q := by
  obtain ⟨a, h1, hp⟩ := h
  obtain ⟨b, h2, hq⟩ := hf a hp
  exact ⟨b, Ev.bind h1 h2, hq⟩
theorem EvG.shift {g : Nat → Option α} {P : α → Prop} (h : EvG (fun k => g (k + 1)) P) : EvG g P := by obtain ⟨a, h1, hp⟩ := h; exact ⟨a, Ev.shift h1, hp⟩
theorem EvG.pos {p : Prop} [Decidable p] {a b : Nat → Option α} {P : α → Prop} (hp : p) (h : EvG a P) : EvG (fun k => if p then a k else b k) P := by simp only [hp, if_true]; exact h
theorem EvG.neg {p : Prop} [Decidable p] {a b : Nat → Option α} {P : α → Prop} (hp : ¬ p) (h : EvG b P) : EvG (fun k => if p then a k else b k) P := by simp only [hp, if_false]; exact h
theorem EvG.ite {p : Prop} [Decidable p] {a b : Nat → Option α} {P : α → Prop} (h1 : p → EvG a P) (h2 : ¬ p → EvG b P) : EvG (fun k => if p then a k else b k) P := by
  by_cases h : p
  · exact EvG.pos h (h1 h)
  · exact EvG.neg h (h2 h)
theorem EvG.mono {g : Nat → Option α} {P Q : α → Prop} (h : EvG g P) (f : ∀ a, P a → Q a) : EvG g Q := by obtain ⟨a, h1, h2⟩ := h; exact ⟨a, h1, f a h2⟩
end
def okC (b : List Int) (i : Int) : Prop := b.length ≤ 1048576 ∧ 0 ≤ i ∧ i ≤ (b.length : Int)
theorem and255_all (n : Int) : Go.bits .and .i64 n 255 = n % 256 := by
  have h255 : (BitVec.ofInt 64 255).toNat = 2 ^ 8 - 1 := by decide
  have key : (BitVec.ofInt 64 n &&& BitVec.ofInt 64 255).toNat = (n % ((2 ^ 64 : Nat) : Int)).toNat % 2 ^ 8 := by
    rw [BitVec.toNat_and, BitVec.toNat_ofInt, h255, Nat.and_two_pow_sub_one_eq_mod]
  show IntKind.i64.wrap ((BitVec.ofInt 64 n &&& BitVec.ofInt 64 255).toNat : Nat) = n % 256
  rw [key, IntKind.wrap_i64]
  omega
theorem l1Byte_got {b : List Int} {i : Int} (h : okC b i) (c : Int) : Got (spec_l1Byte.f b i c) (fun r => 0 ≤ r.1 ∧ r.1 ≤ 255 ∧ okC b r.2.1) := by
  obtain ⟨h0, h1, h2⟩ := h
  simp only [spec_l1Byte.f, and255_all]
  refine Got.ite (fun h3 => Got.pos h1 (Got.now ⟨?_, ?_, h0, ?_, ?_⟩)) (fun h3 => Got.now ⟨?_, ?_, h0, h1, h2⟩)
  · show 0 ≤ _ % (256 : Int); omega
  · show _ % (256 : Int) ≤ 255; omega
  · show 0 ≤ wrap64 (i + 1); rw [w64 (by omega) (by omega)]; omega
  · show wrap64 (i + 1) ≤ _; rw [w64 (by omega) (by omega)]; omega
  · show 0 ≤ _ % (256 : Int); omega
  · show _ % (256 : Int) ≤ 255; omega
theorem l1Below_got {b : List Int} {i : Int} (h : okC b i) (c n : Int) : Got (spec_l1Below.f b i c n) (fun r => 0 ≤ r.1 ∧ (0 < n → r.1 < n) ∧ (n ≤ 0 → r.1 = 0) ∧ okC b r.2.1) := by
  simp only [spec_l1Below.f]
  refine Got.ite (fun h1 => Got.now ⟨Int.le_refl 0, fun h2 => by omega, fun _ => rfl, h⟩) (fun h1 => ?_)
  have hn : ¬ n = 0 := by omega
  refine Got.ite (fun h2 => ?_) (fun h2 => ?_)
  · refine (l1Byte_got h c).bind (fun r hr => Got.neg hn (Got.now ⟨?_, fun _ => ?_, fun _ => by omega, hr.2.2⟩))
    · exact Int.tmod_nonneg _ hr.1
    · exact Int.tmod_lt_of_pos _ (by omega)
  · refine (l1Byte_got h c).bind (fun r1 h1 => (l1Byte_got h1.2.2 _).bind (fun r2 h2 => (l1Byte_got h2.2.2 _).bind (fun r3 h3 => (l1Byte_got h3.2.2 _).bind (fun r4 h4 => Got.neg hn (Got.now ⟨?_, fun _ => ?_, fun _ => by omega, h4.2.2⟩)))))
    · refine Int.tmod_nonneg _ ?_
      have e1 : wrap64 (r1.1 * 16777216) = r1.1 * 16777216 := w64 (by omega) (by omega)
      have e2 : wrap64 (r2.1 * 65536) = r2.1 * 65536 := w64 (by omega) (by omega)
      have e3 : wrap64 (r3.1 * 256) = r3.1 * 256 := w64 (by omega) (by omega)
      rw [e1, e2, e3, w64 (n := r1.1 * 16777216 + r2.1 * 65536) (by omega) (by omega), w64 (n := r1.1 * 16777216 + r2.1 * 65536 + r3.1 * 256) (by omega) (by omega), w64 (by omega) (by omega)]
      omega
    · exact Int.tmod_lt_of_pos _ (by omega)
theorem l1New_evg (b : List Int) (hb : b.length ≤ 1048576) : EvG (fun k => spec_l1New.f k b) (fun r => r.1 = b ∧ r.2.1 = 0) := by
  have key : ∀ i : Nat, i ≤ b.length → ∀ h : Int, EvG (fun k => spec_l1New.l0 k b h (i : Int)) (fun r => r.1 = b ∧ r.2.1 = 0) := by
    refine back ?_ fun i hi ih => ?_
    · intro h
      refine EvG.shift ?_
      simp only [spec_l1New.l0, Int.lt_irrefl, if_false]
      exact EvG.now ⟨rfl, rfl⟩
    · intro h
      have c0 : (0 : Int) ≤ (i : Int) := by omega
      have c1 : (i : Int) < (b.length : Int) := by omega
      refine EvG.shift ?_
      simp only [spec_l1New.l0, c0, c1, if_true, succ64 hi (by omega)]
      refine EvG.ite (fun _ => ih _) (fun _ => EvG.now ⟨rfl, rfl⟩)
  simp only [spec_l1New.f]
  exact key 0 (Nat.zero_le _) _
theorem okC_start {b : List Int} (hb : b.length ≤ 1048576) : okC b 0 := ⟨hb, Int.le_refl _, by omega⟩
theorem l1PickInt_got {b : List Int} {i : Int} (h : okC b i) (c : Int) (l : List Int) (hl : l ≠ []) : Got (spec_l1PickInt.f b i c l) (fun r => r.1 ∈ l ∧ okC b r.2.1) := by
  have hp := List.length_pos_iff.mpr hl
  simp only [spec_l1PickInt.f]
  refine (l1Below_got h c _).bind (fun r hr => Got.pos hr.1 (Got.pos (hr.2.1 (by omega)) (Got.now ⟨?_, hr.2.2.2⟩)))
  have h1 := hr.1
  have h2 := hr.2.1 (by omega)
  obtain ⟨n, hn⟩ : ∃ n : Nat, r.1 = (n : Int) := ⟨r.1.toNat, by omega⟩
  have hlt : n < l.length := by omega
  show rd l r.1 ∈ l
  rw [hn, rd_get (List.getElem?_eq_getElem hlt)]
  exact List.getElem_mem hlt
theorem l1Once_got {b : List Int} {i : Int} (h : okC b i) (c n : Int) : Got (spec_l1Once.f b i c n) (fun r => okC b r.2.1) := by
  simp only [spec_l1Once.f]
  exact (l1Below_got h c n).bind (fun r hr => Got.now hr.2.2.2)
theorem l1Pick_got {b : List Int} {i : Int} (h : okC b i) (c : Int) (l : List ByteArray) (hl : l ≠ []) : Got (spec_l1Pick.f b i c l) (fun r => r.1 ∈ l ∧ okC b r.2.1) := by
  have hp := List.length_pos_iff.mpr hl
  simp only [spec_l1Pick.f]
  refine (l1Below_got h c _).bind (fun r hr => Got.pos hr.1 (Got.pos (hr.2.1 (by omega)) (Got.now ⟨?_, hr.2.2.2⟩)))
  have h1 := hr.1
  have h2 := hr.2.1 (by omega)
  obtain ⟨n, hn⟩ : ∃ n : Nat, r.1 = (n : Int) := ⟨r.1.toNat, by omega⟩
  have hlt : n < l.length := by omega
  show rdOf ByteArray.empty l r.1 ∈ l
  rw [hn]
  have e : rdOf ByteArray.empty l (n : Int) = l[n] := getD_get (List.getElem?_eq_getElem hlt)
  rw [e]
  exact List.getElem_mem hlt
theorem l17DrawOf_got {b : List Int} {i : Int} (h : okC b i) (c n : Int) : Got (spec_l17DrawOf.f b i c n) (fun r => r.2.2.1.size ≤ 22 ∧ okC b r.2.2.2.1) := by
  simp only [spec_l17DrawOf.f]
  refine Got.ite (fun _ => (l1Below_got h c 2).bind (fun r hr => Got.now ⟨by show 0 ≤ 22; decide, hr.2.2.2⟩)) (fun _ => ?_)
  refine Got.ite (fun _ => (l1PickInt_got h c _ (by simp)).bind (fun r hr => Got.now ⟨by show 0 ≤ 22; decide, hr.2⟩)) (fun _ => ?_)
  refine Got.ite (fun _ => (l1Pick_got h c _ (by simp)).bind (fun r hr => Got.now ⟨?_, hr.2⟩)) (fun _ => Got.now ⟨by show 0 ≤ 22; decide, h⟩)
  have h1 := hr.1
  show r.1.size ≤ 22
  simp only [List.mem_cons, List.not_mem_nil, or_false] at h1
  rcases h1 with h | h | h | h | h | h | h | h | h <;> rw [h] <;> decide +kernel
theorem l17DrawRight_got {b : List Int} {i : Int} (h : okC b i) (c : Int) : Got (spec_l17DrawRight.f b i c) (fun r => r.2.2.1.size ≤ 22 ∧ okC b r.2.2.2.1) := by
  simp only [spec_l17DrawRight.f]
  exact (l1Below_got h c 4).bind (fun r hr => (l17DrawOf_got hr.2.2.2 _ _).bind (fun r2 hr2 => Got.now hr2))
theorem l17Draw_got {b : List Int} {i : Int} (h : okC b i) (c : Int) : Got (spec_l17Draw.f b i c) (fun r => r.2.2.1.size ≤ 42 ∧ okC b r.2.2.2.1) := by
  simp only [spec_l17Draw.f]
  refine (l17DrawRight_got h c).bind (fun r hr => (l1Below_got hr.2 _ 12).bind (fun r2 hr2 => ?_))
  refine Got.ite (fun _ => (l1Below_got hr2.2.2.2 _ 6).bind (fun r3 hr3 => Got.now ⟨by have := hr.1; show r.2.2.1.size ≤ 42; omega, hr3.2.2.2⟩)) (fun _ => ?_)
  refine Got.ite (fun _ => (l1PickInt_got hr2.2.2.2 _ _ (by simp)).bind (fun r3 hr3 => Got.now ⟨by have := hr.1; show r.2.2.1.size ≤ 42; omega, hr3.2⟩)) (fun _ => ?_)
  refine Got.ite (fun _ => Got.pos (by have := hr.1; omega) (Got.now ⟨?_, hr2.2.2.2⟩)) (fun _ => Got.now ⟨by have := hr.1; show r.2.2.1.size ≤ 42; omega, hr2.2.2.2⟩)
  have := hr.1
  show (_ ++ _ : ByteArray).size ≤ 42
  rw [ByteArray.size_append]
  show _ + 20 ≤ 42
  omega
theorem l18DrawRight_evg {b : List Int} {i : Int} (h : okC b i) (c : Int) : EvG (fun k => spec_l18DrawRight.f k b i c) (fun r => r.1.length ≤ 5 ∧ okC b r.2.1) := by
  have key : ∀ (n : Nat) (x : List S37) (i c : Int), x.length + n = 5 → okC b i → EvG (fun k => spec_l18DrawRight.l0 k x (x.length : Int) b i c) (fun r => r.1.length ≤ 5 ∧ okC b r.2.1) := by
    intro n
    induction n with
    | zero =>
      intro x i c hx hc
      refine EvG.shift ?_
      simp only [spec_l18DrawRight.l0]
      refine EvG.bind (EvG.of_got (l1Below_got hc c 5)) (fun r hr => EvG.neg ?_ (EvG.now ⟨by show x.length ≤ 5; omega, hr.2.2.2⟩))
      have := hr.2.1 (by decide)
      omega
    | succ n ih =>
      intro x i c hx hc
      refine EvG.shift ?_
      simp only [spec_l18DrawRight.l0]
      refine EvG.bind (EvG.of_got (l1Below_got hc c 5)) (fun r hr => EvG.ite (fun _ => ?_) (fun _ => EvG.now ⟨by show x.length ≤ 5; omega, hr.2.2.2⟩))
      refine EvG.bind (EvG.of_got (l17DrawRight_got hr.2.2.2 _)) (fun r2 hr2 => EvG.pos (by omega) ?_)
      have h2 := ih (x ++ [⟨r2.1, r2.2.1, r2.2.2.1⟩]) r2.2.2.2.1 r2.2.2.2.2 (by simp only [List.length_append, List.length_cons, List.length_nil]; omega) hr2.2
      have e : (((x ++ [(⟨r2.1, r2.2.1, r2.2.2.1⟩ : S37)]).length : Nat) : Int) = wrap64 ((x.length : Int) + 1) := by
        rw [w64 (by omega) (by omega)]
        simp only [List.length_append, List.length_cons, List.length_nil]
        omega
      rw [e] at h2
      exact h2
  simp only [spec_l18DrawRight.f]
  exact key 5 [] i c rfl h
theorem l18Draw_evg {b : List Int} {i : Int} (h : okC b i) (c : Int) : EvG (fun k => spec_l18Draw.f k b i c) (fun r => r.1.length ≤ 6 ∧ okC b r.2.1) := by
  simp only [spec_l18Draw.f]
  refine EvG.bind (l18DrawRight_evg h c) (fun r hr => EvG.bind (EvG.of_got (l1Once_got hr.2 _ 6)) (fun r2 hr2 => EvG.ite (fun _ => ?_) (fun _ => EvG.now ⟨by have := hr.1; show r.1.length ≤ 6; omega, hr2⟩)))
  refine EvG.bind (EvG.of_got (l17Draw_got hr2 _)) (fun r3 hr3 => EvG.pos (by have := hr.1; omega) (EvG.now ⟨?_, hr3.2⟩))
  have := hr.1
  show (r.1 ++ _).length ≤ 6
  simp only [List.length_append, List.length_cons, List.length_nil]
  omega
theorem draw18_evg (b : List Int) (hb : b.length ≤ 1048576) : EvG (fun k => (spec_l1New.f k b).bind fun bt101 => ((spec_l18Draw.f k bt101.1 bt101.2.1 bt101.2.2).bind fun bt105 => (some bt105.1))) (fun r => r.length ≤ 7) := by
  refine EvG.bind (l1New_evg b hb) (fun r hr => ?_)
  have hc : okC r.1 r.2.1 := by rw [hr.1, hr.2]; exact okC_start hb
  exact EvG.bind (l18Draw_evg hc _) (fun r2 hr2 => EvG.now (by have := hr2.1; show r2.1.length ≤ 7; omega))
theorem tbytes_len (l : List iV) : (tbytes l).length ≤ 1000 := by
  unfold tbytes
  split
  · rename_i h
    obtain ⟨hm, h4⟩ := okT_mem h
    have := encs_length hm
    omega
  · simp
theorem tbytes_isB (l : List iV) : isB (tbytes l) := by
  unfold tbytes
  split
  · exact encs_isB l
  · intro b hb; cases hb
theorem isB_app {a b : List Int} (ha : isB a) (hb : isB b) : isB (a ++ b) := fun x hx => (List.mem_append.mp hx).elim (ha x) (hb x)
theorem isB_take {a : List Int} (ha : isB a) (n : Nat) : isB (a.take n) := fun x hx => ha x (List.mem_of_mem_take hx)
theorem isB_drop {a : List Int} (ha : isB a) (n : Nat) : isB (a.drop n) := fun x hx => ha x (List.mem_of_mem_drop hx)
theorem drawTupleOf_evg (b : List Int) (hb : b.length ≤ 1048576) : EvG (fun k => spec_DrawTupleOf.f k b) (fun r => r.length ≤ 1048576 ∧ isB r) := by
  simp only [spec_DrawTupleOf.f]
  refine EvG.bind (l1New_evg b hb) (fun r hr => ?_)
  have hc : okC r.1 r.2.1 := by rw [hr.1, hr.2]; exact okC_start hb
  refine EvG.bind (l18DrawRight_evg hc _) (fun r2 hr2 => ?_)
  refine EvG.bind (P := fun t => t.length ≤ 1000 ∧ isB t) (EvG.of_ev (spec_TupleBytes_ev r2.1 (by have := hr2.1; omega)) ⟨tbytes_len _, tbytes_isB _⟩) (fun t ht => ?_)
  have hw : wrap64 ((t.length : Int) + 1) = (t.length : Int) + 1 := w64 (by omega) (by have := ht.1; omega)
  refine EvG.bind (EvG.of_got (l1Below_got hr2.2 _ _)) (fun r3 hr3 => ?_)
  refine EvG.bind (EvG.of_got (l1Below_got hr3.2.2.2 _ 5)) (fun r4 hr4 => ?_)
  have g0 : 0 ≤ r3.1 := hr3.1
  have g1 : r3.1 ≤ (t.length : Int) := by
    have := hr3.2.1 (by rw [hw]; omega)
    rw [hw] at this
    omega
  have lt := ht.1
  have tk : (t.take (r3.1 : Int).toNat).length ≤ 1000 := by rw [List.length_take]; omega
  have td : (t.drop (r3.1 : Int).toNat).length ≤ 1000 := by rw [List.length_drop]; omega
  refine EvG.ite (fun _ => EvG.pos g0 (EvG.pos g1 (EvG.now ⟨by omega, isB_take ht.2 _⟩))) (fun _ => EvG.ite (fun _ => ?_) (fun _ => EvG.now ⟨by omega, ht.2⟩))
  refine EvG.bind (P := fun y => y = []) (EvG.now rfl) (fun y0 hy0 => ?_)
  refine EvG.pos g0 (EvG.pos g1 ?_)
  refine EvG.bind (P := fun y => y = t.take (r3.1 : Int).toNat) (EvG.now rfl) (fun y1 hy1 => ?_)
  subst hy0
  subst hy1
  refine EvG.pos (by rw [List.length_nil]; omega) ?_
  refine EvG.bind (P := fun y => y = t.take (r3.1 : Int).toNat) (EvG.now rfl) (fun y2 hy2 => ?_)
  subst hy2
  refine EvG.bind (EvG.of_got (l1PickInt_got hr4.2.2.2 _ _ (by simp))) (fun r5 hr5 => ?_)
  refine EvG.bind (P := fun y => y = [r5.1 % 256]) (EvG.now rfl) (fun y3 hy3 => ?_)
  refine EvG.bind (P := fun y => y = t.drop (r3.1 : Int).toNat) (EvG.now rfl) (fun y4 hy4 => ?_)
  subst hy3
  subst hy4
  refine EvG.pos (by rw [List.length_singleton]; omega) ?_
  refine EvG.bind (P := fun y => y = [r5.1 % 256] ++ t.drop (r3.1 : Int).toNat) (EvG.now rfl) (fun y5 hy5 => ?_)
  subst hy5
  have l5 : ([r5.1 % 256] ++ t.drop (r3.1 : Int).toNat).length ≤ 1001 := by rw [List.length_append, List.length_singleton]; omega
  refine EvG.pos (by omega) (EvG.now ⟨by rw [List.length_append]; omega, ?_⟩)
  refine isB_app (isB_take ht.2 _) (isB_app ?_ (isB_drop ht.2 _))
  intro x hx
  obtain rfl := List.mem_singleton.mp hx
  omega
theorem tupOf_back {q : List Int} (h : (tupOf q).2 = true) : tbytes (tupOf q).1 = q := by
  by_cases g : ∃ y, okT y = true ∧ encs y = q
  · have e : tupOf q = (Classical.choose g, true) := dif_pos g
    rw [e]
    show tbytes (Classical.choose g) = q
    have c := Classical.choose_spec g
    unfold tbytes
    rw [if_pos c.1]
    exact c.2
  · have e : tupOf q = ([], false) := dif_neg g
    rw [e] at h
    cases h
theorem pureFnTuples : PureFnTuples := by
  intro x hx
  refine Ev.rounds ?_
  simp only [laws_FnTuples.f, laws_big.f]
  by_cases hp : (x.length : Int) > 1048576
  · simp only [hp, decide_true, Option.bind_some, if_true]; exact Ev.now _
  simp only [hp, decide_false, Option.bind_some, Bool.false_eq_true, if_false]
  have hb : x.length ≤ 1048576 := by omega
  obtain ⟨t, h1, ht⟩ := draw18_evg x hb
  have d1 : Ev (fun k => spec_DrawTupleBytes.f k x) t := by simp only [spec_DrawTupleBytes.f]; exact h1
  have d2 : Ev (fun k => spec_DrawTupleOk.f k x) t := by simp only [spec_DrawTupleOk.f]; exact h1
  have d3 : Ev (fun k => spec_DrawTupleText.f k x) t := by simp only [spec_DrawTupleText.f]; exact h1
  obtain ⟨q, h2, hq, hB⟩ := drawTupleOf_evg x hb
  have lt : t.length ≤ 9223372036854775807 := by omega
  have lq := tupOf_le q
  refine Ev.bind d1 (Ev.bind (impl_TupleBytes_ev t lt) (Ev.bind h2 (Ev.bind (impl_TupleOf_ev q hq hB) (Ev.bind (spec_TupleOf_ev q hq hB) (Ev.bind d2 (Ev.bind d3 (Ev.bind (spec_TupleBytes_ev t lt) (Ev.pos rfl (Ev.neg (by simp) ?_)))))))))
  obtain ⟨r, hr, hs⟩ := sameTuple_ev (tupOf q).1 (tupOf q).1 (by omega)
  refine Ev.bind hs (Ev.pos (hr.2 rfl) (Ev.bind (impl_TupleOk_ev t lt) (Ev.bind (spec_TupleOk_ev t lt) (Ev.neg (by simp) (Ev.bind (impl_TupleText_ev t (by omega)) (Ev.bind (spec_TupleText_ev t (by omega)) (Ev.pos rfl ?_)))))))
  have hj : ∀ d : Bool, d = false → Ev (fun k => laws_FnTuples.j0 k t (tbytes t) d) true := by
    intro d hd
    subst hd
    refine Ev.shift ?_
    simp only [laws_FnTuples.j0, Bool.false_eq_true, if_false]
    refine Ev.bind (impl_TupleOk_ev t lt) ?_
    by_cases ok : okT t = true
    · refine Ev.pos ok ?_
      have e : tbytes t = encs t := if_pos ok
      rw [e]
      obtain ⟨r3, hr3, hs3⟩ := sameTuple_ev t t lt
      refine Ev.bind (impl_parse_ev t ok) (Ev.pos rfl (Ev.bind hs3 (Ev.val ?_)))
      exact hr3.2 rfl
    · refine Ev.neg ok (Ev.val ?_)
      have e : tbytes t = [] := if_neg ok
      rw [e]
      rfl
  by_cases hf : (tupOf q).2 = true
  · refine Ev.pos hf (Ev.bind (impl_TupleBytes_ev _ (by omega)) (hj _ ?_))
    rw [tupOf_back hf]
    simp
  · exact Ev.neg hf (hj _ rfl)
end Go.Proofs.Ytcedikpkbgofhaa.P2
namespace Go.Proofs.Ytcedikpkbgofhaa.fnTuples
open Go.ChangeShapes Go.WideShapes Go.ChangeAt Go.RowKit Go.Proofs.YtcedikpkbgofhaaW.PrintWords Go.Proofs.YtcedikpkbgofhaaW.PrintLast Go.Proofs.YtcedikpkbgofhaaZ Go.Proofs.Ytcedikpkbgofhaa.P2
open Go.ChangeMaps (open_string shut_string)
theorem own : ownKnob Try.prog.godebug = none := by kernel_rfl
theorem laidOut : laidOutB Try.prog = true := by kernel_rfl
set_option maxRecDepth 100000 in
theorem lifted (os : Os) (started : os.Started) (H : Type) (enc : TypeId × Value → H) :
    ReturnsInHanded {} Try.checked os 8 .any (Rows.fnTuplesSpec.pre6 enc Try.prog Try.f8 Rows.fnTuplesRow.domain false) (Rows.fnTuplesSpec.post enc Try.prog Try.f8 false true false false) := by
  refine returnsInHanded_of_change_sized (C := Try.checked) own started (by kernel_rfl) Try.func8
    (ChangeSpec.witness6 (enc := enc) (C := Try.checked) false ⟨#[], #[.slice none 0 0], []⟩ 8 (by kernel_rfl) (by kernel_rfl) (by kernel_rfl) (by kernel_rfl)) ?_
  intro W base args ds gs before hval0 hW hcnd hsz0 _
  have hval : ∀ (j : Nat) t v, Try.f8.params[j]? = some t → args[j]? = some v → Value.okWide Try.prog W .any base t v := hval0
  have hW' := hW
  obtain ⟨p, q, hA0, hV, rfl, hfz, hnd⟩ := hW
  have hA : DataW.TrodAll enc Try.prog W 0 (fun _ => true) true Try.f8.params.toList args.toList ds p := hA0
  rw [Try.params8] at hA hval
  obtain ⟨v0, vs0, d0, ds0, p0, q0, hargs, rfl, rfl, h0, r0⟩ := trodAll_cons hA
  obtain ⟨rfl, rfl, rfl⟩ := trodAll_nil r0
  obtain rfl : args = #[v0] := by cases args; simp_all
  obtain ⟨rfl, rfl⟩ := trodVars_none hV
  have k0_ := h0
  have lt0 : ∀ x ∈ p0, x.block < W.heap.size := by obtain ⟨m, hm⟩ := k0_; exact DataW.trod_lt m _ _ _ hm
  obtain ⟨a0_, len0_, cap0_, rfl⟩ := okWide_slice Try.underlying22 (hval 0 22 v0 rfl rfl)
  obtain ⟨x0, K0, wf0_⟩ := Opens.param (Opens.slice 5 Try.underlying22 (by kernel_rfl) (Opens.int Try.underlying5)) h0
  obtain ⟨A0, c0, e0, l0, g0⟩ := K0
  simp [Value.cells] at e0
  obtain ⟨rfl, rfl, rfl⟩ := e0
  obtain ⟨k, hk⟩ := pureFnTuples x0 wf0_
  clear hA0 hval0 hsz0
  refine (laws_FnTuples.calls k _ _ x0 true W g0 l0 hk).mono fun e W' hh => ?_
  obtain ⟨he, bel0⟩ := hh
  have bel : Below W.heap.size W W' := bel0
  subst he
  exact ⟨_, rfl, _, _, _, [], _, [], hW', trodAll_mk1 (shut_bool Try.underlying4 _), (trodAll_cons_mk (Below.trod laidOut (by kernel_rfl) (of_decide_eq_true (by kernel_rfl)) k0_ bel lt0) trodAll_mk0), rfl, bel.frame _, fun h => by cases h⟩
theorem over : Rows.fnTuplesRow.holds Try.pinned (OpenSpec.ofChange Rows.fnTuplesSpec) :=
  OpenClaim.holds_of_wide 8 Try.f8 rfl rfl rfl rfl rfl rfl rfl ⟨rfl, rfl, rfl, rfl, rfl⟩ rfl rfl rfl rfl rfl (by kernel_rfl) Try.func8 (by kernel_rfl)
    (of_decide_eq_true (by kernel_rfl)) (by unfold Func.isWrapper; first | (rw [if_pos (by decide +kernel)]; kernel_rfl) | (rw [if_neg (by decide +kernel)]; exact ⟨rfl, rfl⟩))
    (fun os started H enc _ => lifted os started H enc)
theorem proved : Rows.FnTuplesSaid := over
#print axioms proved
end Go.Proofs.Ytcedikpkbgofhaa.fnTuples
namespace Go.Proofs.Ytcedikpkbgofhaa
theorem fnTuples_holds : Rows.FnTuplesSaid := fnTuples.proved
end Go.Proofs.Ytcedikpkbgofhaa
