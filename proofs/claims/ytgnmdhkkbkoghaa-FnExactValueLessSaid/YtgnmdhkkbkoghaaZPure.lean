/- Plain lemmas on the printed functions' rounds, on numbers and lists: no program in sight. -/
import Derived.Test.YtgnmdhkkbkoghaaWWords
import Derived.Test.YtgnmdhkkbkoghaaWLast
import Derived.Test.YtgnmdhkkbkoghaaWMore
import Derived.OpenShut
namespace Go.Proofs.YtgnmdhkkbkoghaaW.PrintWords
section
variable {α : Type}
theorem Ev.shift {g : Nat → Option α} {r : α} (h : Ev (fun k => g (k + 1)) r) : Ev g r := Ev.step (fun _ => rfl) h
theorem Ev.val {a r : α} (h : a = r) : Ev (fun _ => some a) r := by subst h; exact Ev.now _
theorem Ev.of_eq {o : Option α} {r : α} (h : o = some r) : Ev (fun _ => o) r := by subst h; exact Ev.now _
theorem Ev.to {g : Nat → Option α} {a r : α} (h : Ev g a) (e : a = r) : Ev g r := e ▸ h
theorem Ev.pos {p : Prop} [Decidable p] {g f : Nat → Option α} {r : α} (h : p) (hg : Ev g r) : Ev (fun k => if p then g k else f k) r := by
  simp only [if_pos h]; exact hg
theorem Ev.neg {p : Prop} [Decidable p] {g f : Nat → Option α} {r : α} (h : ¬ p) (hf : Ev f r) : Ev (fun k => if p then g k else f k) r := by
  simp only [if_neg h]; exact hf
theorem Ev.det {g : Nat → Option α} {a b : α} (h : Ev g a) (h' : Ev g b) : a = b := by
  obtain ⟨K, hK⟩ := h
  obtain ⟨L, hL⟩ := h'
  have h1 := hK (max K L) (Nat.le_max_left _ _)
  have h2 := hL (max K L) (Nat.le_max_right _ _)
  rw [h1] at h2
  exact Option.some.inj h2
end
end Go.Proofs.YtgnmdhkkbkoghaaW.PrintWords
namespace Go.Proofs.YtgnmdhkkbkoghaaZ
open Go.RowKit Go.Proofs.YtgnmdhkkbkoghaaW.PrintWords
/-- What holds at n, and at i where it holds at i + 1, holds at each. -/
theorem back {n : Nat} {Q : Nat → Prop} (hn : Q n) (hs : ∀ i, i < n → Q (i + 1) → Q i) : ∀ i, i ≤ n → Q i := by
  intro i hi
  obtain ⟨d, rfl⟩ : ∃ d, n = i + d := ⟨n - i, by omega⟩
  clear hi
  induction d generalizing i with
  | zero => exact hn
  | succ d ih =>
    refine hs i (by omega) (ih (i + 1) ?_ ?_)
    · rw [show i + 1 + d = i + (d + 1) by omega]; exact hn
    · intro j hj; exact hs j (by omega)
theorem w64 {n : Int} (h1 : -9223372036854775808 ≤ n) (h2 : n < 9223372036854775808) : wrap64 n = n := by unfold wrap64; omega
theorem w32 {n : Int} (h1 : -2147483648 ≤ n) (h2 : n < 2147483648) : wrap32 n = n := by unfold wrap32; omega
theorem i64_wf {n : Int} (h : (Lit.int .i64 n).wf = true) : -9223372036854775808 ≤ n ∧ n < 9223372036854775808 := by
  have := Go.bounds_i64 h; omega
theorem succ64 {i n : Nat} (h : i < n) (hn : n ≤ 9223372036854775807) : wrap64 ((i : Int) + 1) = ((i + 1 : Nat) : Int) := by
  rw [w64 (by omega) (by omega)]; simp
/-- What is left of t behind a weight: -1 where it does not last. -/
def lf (w t : Int) : Int := if w ≤ t then t - w else -1
theorem lf_pos {w t : Int} (h : w ≤ t) : lf w t = t - w := if_pos h
theorem lf_neg {w t : Int} (h : ¬ w ≤ t) : lf w t = -1 := if_neg h
section
variable {τ σ : Type}
def ctl (ct : τ → Int) : List τ → Int
  | [] => 0
  | x :: xs => ct x + ctl ct xs
def mkl (ct : τ → Int) (mk : τ → Int → τ) : List τ → Int → List τ
  | [], _ => []
  | x :: xs, m => mk x m :: mkl ct mk xs (m + ct x)
theorem ctl_nonneg {ct : τ → Int} (h : ∀ x, 0 ≤ ct x) : ∀ l, 0 ≤ ctl ct l
  | [] => Int.le_refl 0
  | x :: xs => by have h1 := h x; have h2 := ctl_nonneg h xs; simp only [ctl]; omega
theorem mkl_length (ct : τ → Int) (mk : τ → Int → τ) : ∀ l m, (mkl ct mk l m).length = l.length
  | [], _ => rfl
  | x :: xs, m => by simp only [mkl, List.length_cons, mkl_length ct mk xs]
theorem get_mid (A : List τ) (x : τ) (B : List τ) : (A ++ x :: B)[A.length]? = some x := by
  rw [List.getElem?_append_right (Nat.le_refl _), Nat.sub_self]; rfl
theorem set_mid (A : List τ) (x y : τ) (B : List τ) : (A ++ x :: B).set A.length y = A ++ [y] ++ B := by
  rw [List.set_append_right _ _ (Nat.le_refl _), Nat.sub_self]; simp
/-- A loop that fills a list out of another one. -/
theorem fill_ev (xs : List τ) (c : τ → σ) (z : σ) {g : Nat → List σ → Int → Option (List σ)} (hend : ∀ l : List σ, l.length = xs.length → Ev (fun k => g k l (xs.length : Int)) l)
    (hstep : ∀ (l : List σ) (i : Nat) (x : τ) (r : List σ), xs[i]? = some x → l.length = xs.length → i < xs.length → Ev (fun k => g k (l.set i (c x)) ((i + 1 : Nat) : Int)) r → Ev (fun k => g k l (i : Int)) r) :
    Ev (fun k => g k (List.replicate xs.length z) 0) (xs.map c) := by
  have key : ∀ (B A : List τ), xs = A ++ B → Ev (fun k => g k (A.map c ++ List.replicate B.length z) (A.length : Int)) (xs.map c) := by
    intro B
    induction B with
    | nil =>
      intro A hA
      rw [List.append_nil] at hA
      have := hend (xs.map c) (by simp)
      subst hA
      simp only [List.length_nil, List.replicate_zero, List.append_nil]
      exact this
    | cons x B ih =>
      intro A hA
      have h1 := ih (A ++ [x]) (by simp [hA])
      refine hstep _ A.length x _ (by rw [hA]; exact get_mid A x B) (by simp [hA]) (by simp [hA]) ?_
      have e : (A.map c ++ List.replicate (x :: B).length z).set A.length (c x) = (A ++ [x]).map c ++ List.replicate B.length z := by
        have := set_mid (A.map c) z (c x) (List.replicate B.length z)
        rw [List.length_map] at this
        simp only [List.length_cons, List.replicate_succ, List.map_append, List.map_cons, List.map_nil]
        exact this
      rw [e]
      simp only [List.length_append, List.length_singleton] at h1
      exact h1
  have := key xs [] rfl
  simpa using this
/-- A loop that looks through a list. -/
theorem look_ev (xs : List τ) {ρ : Type} (r : ρ) {g : Nat → Int → Option ρ} (hend : Ev (fun k => g k (xs.length : Int)) r)
    (hstep : ∀ (i : Nat) (x : τ), xs[i]? = some x → i < xs.length → Ev (fun k => g k ((i + 1 : Nat) : Int)) r → Ev (fun k => g k (i : Int)) r) : Ev (fun k => g k 0) r := by
  refine back (n := xs.length) (Q := fun i => Ev (fun k => g k (i : Int)) r) hend (fun i hi h => ?_) 0 (Nat.zero_le _)
  exact hstep i xs[i] (List.getElem?_eq_getElem hi) hi h
/-- A loop that takes weights off a number, as long as it lasts. -/
theorem size_ev (xs : List τ) (wt : τ → Int) (hw : ∀ x, 0 ≤ wt x) (M : Int) {g : Nat → Int → Int → Option Int} (hend : ∀ t, Ev (fun k => g k t (xs.length : Int)) t)
    (hneg : ∀ (t : Int) (i : Nat) (x : τ), xs[i]? = some x → i < xs.length → 0 ≤ t → t ≤ M → t < wt x → Ev (fun k => g k t (i : Int)) (-1))
    (hpos : ∀ (t : Int) (i : Nat) (x : τ) (r : Int), xs[i]? = some x → i < xs.length → 0 ≤ t → t ≤ M → wt x ≤ t → Ev (fun k => g k (t - wt x) ((i + 1 : Nat) : Int)) r → Ev (fun k => g k t (i : Int)) r) :
    ∀ t, 0 ≤ t → t ≤ M → Ev (fun k => g k t 0) (lf (ctl wt xs) t) := by
  have key : ∀ (B A : List τ), xs = A ++ B → ∀ t, 0 ≤ t → t ≤ M → Ev (fun k => g k t (A.length : Int)) (lf (ctl wt B) t) := by
    intro B
    induction B with
    | nil =>
      intro A hA t h0 h1
      rw [List.append_nil] at hA
      rw [← hA]
      refine (hend t).to ?_
      simp only [ctl]
      rw [lf_pos h0]
      omega
    | cons x B ih =>
      intro A hA t h0 h1
      have hx : xs[A.length]? = some x := by rw [hA]; exact get_mid A x B
      have hi : A.length < xs.length := by simp [hA]
      have hwx := hw x
      have hwB := ctl_nonneg hw B
      simp only [ctl]
      by_cases h : wt x ≤ t
      · have h2 := ih (A ++ [x]) (by simp [hA]) (t - wt x) (by omega) (by omega)
        rw [List.length_append, List.length_singleton] at h2
        have h3 := hpos t A.length x _ hx hi h0 h1 h h2
        by_cases h4 : ctl wt B ≤ t - wt x
        · rw [lf_pos h4] at h3; rw [lf_pos (by omega)]; exact h3.to (by omega)
        · rw [lf_neg h4] at h3; rw [lf_neg (by omega)]; exact h3
      · rw [lf_neg (by omega)]
        exact hneg t A.length x hx hi h0 h1 (by omega)
  intro t h0 h1
  exact key xs [] rfl t h0 h1
/-- A loop that writes numbers into a list's elements. -/
theorem mark_ev (ct : τ → Int) (mk : τ → Int → τ) (hc : ∀ x, 0 ≤ ct x) (M : Int) {g : Nat → List τ → Int → Int → Option (Int × List τ)} (N : Nat) (hend : ∀ l m, l.length = N → Ev (fun k => g k l m (l.length : Int)) (m, l))
    (hstep : ∀ (l : List τ) (m : Int) (i : Nat) (x : τ) (r : Int × List τ), l.length = N → l[i]? = some x → i < l.length → 0 ≤ m → m + ct x ≤ M → Ev (fun k => g k (l.set i (mk x m)) (m + ct x) ((i + 1 : Nat) : Int)) r → Ev (fun k => g k l m (i : Int)) r) :
    ∀ l m, l.length = N → 0 ≤ m → m + ctl ct l ≤ M → Ev (fun k => g k l m 0) (m + ctl ct l, mkl ct mk l m) := by
  have key : ∀ (B A : List τ) m, (A ++ B).length = N → 0 ≤ m → m + ctl ct B ≤ M → Ev (fun k => g k (A ++ B) m (A.length : Int)) (m + ctl ct B, A ++ mkl ct mk B m) := by
    intro B
    induction B with
    | nil =>
      intro A m hN h0 h1
      have := hend (A ++ []) m hN
      simpa [ctl, mkl] using this
    | cons x B ih =>
      intro A m hN h0 h1
      have hcx := hc x
      have hcB := ctl_nonneg hc B
      simp only [ctl] at h1 ⊢
      have h2 := ih (A ++ [mk x m]) (m + ct x) (by simpa using hN) (by omega) (by omega)
      refine hstep (A ++ x :: B) m A.length x _ hN (get_mid A x B) (by simp) h0 (by omega) ?_
      rw [set_mid]
      rw [List.length_append, List.length_singleton] at h2
      refine h2.to ?_
      simp only [mkl, List.append_assoc, List.singleton_append]
      congr 1
      omega
  intro l m hN h0 h1
  exact key l [] m hN h0 h1
/-- A loop that asks whether they are there. -/
theorem held_ev (ct : τ → Int) (mk : τ → Int → τ) (hc : ∀ x, 0 ≤ ct x) (M : Int) {g : Nat → List τ → Int → Int → Option Int} (N : Nat) (hend : ∀ l m, l.length = N → Ev (fun k => g k l m (l.length : Int)) m)
    (hstep : ∀ (l : List τ) (m : Int) (i : Nat) (x : τ) (r : Int), l.length = N → l[i]? = some (mk x m) → i < l.length → 0 ≤ m → m + ct x ≤ M → Ev (fun k => g k l (m + ct x) ((i + 1 : Nat) : Int)) r → Ev (fun k => g k l m (i : Int)) r) :
    ∀ l m, l.length = N → 0 ≤ m → m + ctl ct l ≤ M → Ev (fun k => g k (mkl ct mk l m) m 0) (m + ctl ct l) := by
  have key : ∀ (B A : List τ) m, (A ++ mkl ct mk B m).length = N → 0 ≤ m → m + ctl ct B ≤ M → Ev (fun k => g k (A ++ mkl ct mk B m) m (A.length : Int)) (m + ctl ct B) := by
    intro B
    induction B with
    | nil =>
      intro A m hN h0 h1
      have := hend (A ++ []) m hN
      simpa [ctl, mkl] using this
    | cons x B ih =>
      intro A m hN h0 h1
      have hcx := hc x
      have hcB := ctl_nonneg hc B
      simp only [ctl, mkl] at h1 hN ⊢
      have h2 := ih (A ++ [mk x m]) (m + ct x) (by simpa using hN) (by omega) (by omega)
      refine hstep (A ++ mk x m :: mkl ct mk B (m + ct x)) m A.length x _ hN (get_mid A _ _) (by simp) h0 (by omega) ?_
      rw [List.length_append, List.length_singleton] at h2
      simp only [List.append_assoc, List.singleton_append] at h2
      exact h2.to (by omega)
  intro l m hN h0 h1
  exact key l [] m (by simpa [mkl_length] using hN) h0 h1
theorem ctl_const (c : Int) : ∀ l : List τ, ctl (fun _ => c) l = c * l.length
  | [] => by simp [ctl]
  | x :: xs => by simp only [ctl, ctl_const c xs, List.length_cons]; rw [Int.natCast_add, Int.mul_add]; omega
theorem getD_get {xs : List τ} {i : Nat} {x d : τ} (h : xs[i]? = some x) : xs.getD ((i : Int)).toNat d = x := by
  rw [Int.toNat_natCast, List.getD_eq_getElem?_getD, h]; rfl
end
theorem rd_get {xs : List Int} {i : Nat} {x : Int} (h : xs[i]? = some x) : rd xs i = x := getD_get h
end Go.Proofs.YtgnmdhkkbkoghaaZ
