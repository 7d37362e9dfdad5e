/- The law FnExactJudgeSo holds: for every input the call returns true, and each argument reads afterwards as_ it read before. Conditions: none. Written by a program of this session. -/
import Derived.Test.YtmljebgideecjaaGreatRows
import Derived.WalkKit
import Derived.ProofKit
import Derived.OpenShut
import Derived.ShutString
import Derived.ChangeOld
import Derived.Below
import Derived.SizedLaws
import Derived.Carry
import Derived.Test.YtmljebgideecjaaGreatP2kFnExactJudgeSo1
import Derived.Test.YtmljebgideecjaaGreatP2kFnExactJudgeSo16
import Derived.Test.YtmljebgideecjaaGreatP2kFnExactJudgeSo17
import Derived.Test.YtmljebgideecjaaGreatP2kFnExactJudgeSo18
import Derived.Test.YtmljebgideecjaaGreatP2kFnExactJudgeSo19
import Derived.Test.YtmljebgideecjaaGreatP2kFnExactJudgeSo24
import Derived.Test.YtmljebgideecjaaGreatP2kFnExactJudgeSo25
import Derived.Test.YtmljebgideecjaaGreatP2kFnExactJudgeSo26
import Derived.Test.YtmljebgideecjaaGreatP2kFnExactJudgeSo27
import Derived.Test.YtmljebgideecjaaGreatP2kFnExactJudgeSo28
import Derived.Test.YtmljebgideecjaaGreatP2kFnExactJudgeSo29
import Derived.Test.YtmljebgideecjaaGreatP2kFnExactJudgeSo31
set_option linter.unusedSimpArgs false
set_option linter.unusedVariables false
set_option maxHeartbeats 8000000
set_option maxRecDepth 100000
namespace Go.Proofs.YtmljebgideecjaaGreat.P2
open Go.RowKit Go.Proofs.YtmljebgideecjaaGreatW.PrintWords Go.Proofs.YtmljebgideecjaaGreatW.PrintLast Go.Proofs.YtmljebgideecjaaGreatZ
theorem op_key {a b c : Int} (h : opOk a b c = true) (ha : 1 ≤ a ∧ a ≤ 4) : 0 ≤ b ∧ b ≤ 3 := by
 unfold opOk keyB at h
 have : a = 1 ∨ a = 2 ∨ a = 3 ∨ a = 4 := by omega
 rcases this with rfl | rfl | rfl | rfl <;> (simp at h; omega)
theorem fails_both (h : List Int) (s a b c code : Int) (ho : opOk a b c = true) (hl : h.length = 4) : ∃ r : Bool, Ev (fun k => spec_l4Fails.f k h s a b c code) r ∧ Ev (fun k => impl_refusal.f k h s a b c code) r := by
 obtain ⟨key, k1, k2⟩ := keyBoth h (by omega) s c
 have hb : 1 ≤ a ∧ a ≤ 4 → 0 ≤ b ∧ b < (h.length : Int) := fun ha => by have := op_key ho ha; omega
 simp only [spec_l4Fails.f, impl_refusal.f]
 by_cases e1 : code = 1
 ·by_cases a1 : a = 1
  ·obtain ⟨b1, b2⟩ := hb (by omega)
   exact ⟨_, Ev.bind k1 (Ev.pos e1 (Ev.pos a1 (Ev.pos b1 (Ev.pos b2 (Ev.now _))))), Ev.bind k2 (Ev.pos e1 (Ev.pos a1 (Ev.pos b1 (Ev.pos b2 (Ev.now _)))))⟩
  ·exact ⟨_, Ev.bind k1 (Ev.pos e1 (Ev.neg a1 (Ev.now _))), Ev.bind k2 (Ev.pos e1 (Ev.neg a1 (Ev.now _)))⟩
 by_cases e2 : code = 2
 ·by_cases a1 : a = 1
  ·exact ⟨_, Ev.bind k1 (Ev.neg e1 (Ev.pos e2 (Ev.pos a1 (Ev.now _)))), Ev.bind k2 (Ev.neg e1 (Ev.pos e2 (Ev.pos a1 (Ev.now _))))⟩
  by_cases a2 : a = 2
  ·exact ⟨_, Ev.bind k1 (Ev.neg e1 (Ev.pos e2 (Ev.neg a1 (Ev.pos a2 (Ev.now _))))), Ev.bind k2 (Ev.neg e1 (Ev.pos e2 (Ev.neg a1 (Ev.pos a2 (Ev.now _)))))⟩
  ·exact ⟨_, Ev.bind k1 (Ev.neg e1 (Ev.pos e2 (Ev.neg a1 (Ev.neg a2 (Ev.now _))))), Ev.bind k2 (Ev.neg e1 (Ev.pos e2 (Ev.neg a1 (Ev.neg a2 (Ev.now _)))))⟩
 by_cases e3 : code = 3
 ·have red : ∀ m n : Bool, 0 ≤ b → b < (h.length : Int) → Ev (fun k => spec_l4Fails.j0 k m n a true h s a b c) (rd h b == 0) := fun m n b1 b2 => by
   refine Ev.shift ?_
   simp only [spec_l4Fails.j0, if_true]
   exact Ev.pos b1 (Ev.pos b2 (Ev.now _))
  have red2 : 0 ≤ b → b < (h.length : Int) → Ev (fun k => impl_refusal.j0 k code key true h s a b c) (rd h b == 0) := fun b1 b2 => by
   refine Ev.shift ?_
   simp only [impl_refusal.j0, if_true]
   exact Ev.pos b1 (Ev.pos b2 (Ev.now _))
  by_cases a2 : a = 2
  ·obtain ⟨b1, b2⟩ := hb (by omega)
   have ea : (a == 2) = true := by rw [beq_iff_eq]; exact a2
   refine ⟨rd h b == 0, Ev.bind k1 (Ev.neg e1 (Ev.neg e2 (Ev.pos e3 (Ev.pos a2 ?_)))), Ev.bind k2 (Ev.neg e1 (Ev.neg e2 (Ev.pos e3 (Ev.pos a2 (red2 b1 b2)))))⟩
   simp only [ea]; exact red _ _ b1 b2
  by_cases a3 : a = 3
  ·obtain ⟨b1, b2⟩ := hb (by omega)
   have ea : (a == 3) = true := by rw [beq_iff_eq]; exact a3
   refine ⟨rd h b == 0, Ev.bind k1 (Ev.neg e1 (Ev.neg e2 (Ev.pos e3 (Ev.neg a2 (Ev.pos a3 ?_))))), Ev.bind k2 (Ev.neg e1 (Ev.neg e2 (Ev.pos e3 (Ev.neg a2 (Ev.pos a3 (red2 b1 b2))))))⟩
   simp only [ea]; exact red _ _ b1 b2
  by_cases a4 : a = 4
  ·obtain ⟨b1, b2⟩ := hb (by omega)
   have ea : (a == 4) = true := by rw [beq_iff_eq]; exact a4
   refine ⟨rd h b == 0, Ev.bind k1 (Ev.neg e1 (Ev.neg e2 (Ev.pos e3 (Ev.neg a2 (Ev.neg a3 ?_))))), Ev.bind k2 (Ev.neg e1 (Ev.neg e2 (Ev.pos e3 (Ev.neg a2 (Ev.neg a3 ?_)))))⟩
   ·simp only [ea]; exact red _ _ b1 b2
   ·simp only [ea]; exact red2 b1 b2
  have ea : (a == 4) = false := by rw [beq_eq_false_iff_ne]; exact a4
  refine ⟨if a = 5 then !decide (key ≥ 0) else if a = 10 then (if s = 5 then !decide (key ≥ 0) else false) else false, Ev.bind k1 (Ev.neg e1 (Ev.neg e2 (Ev.pos e3 (Ev.neg a2 (Ev.neg a3 ?_))))), Ev.bind k2 (Ev.neg e1 (Ev.neg e2 (Ev.pos e3 (Ev.neg a2 (Ev.neg a3 ?_)))))⟩
  ·simp only [ea]
   refine Ev.shift ?_
   simp only [spec_l4Fails.j0, Bool.false_eq_true, if_false]
   by_cases a5 : a = 5
   ·refine Ev.rpos a5 ?_; exact Ev.pos a5 (Ev.now _)
   ·refine Ev.rneg a5 ?_
    refine Ev.neg a5 ?_
    by_cases a10 : a = 10
    ·refine Ev.rpos a10 ?_
     refine Ev.pos a10 ?_
     by_cases hs : s = 5
     ·refine Ev.rpos hs ?_; exact Ev.pos (by rw [beq_iff_eq]; exact hs) (Ev.now _)
     ·refine Ev.rneg hs ?_; exact Ev.neg (by rw [beq_iff_eq]; exact hs) (Ev.now _)
    ·refine Ev.rneg a10 ?_; exact Ev.neg a10 (Ev.now _)
  ·simp only [ea]
   refine Ev.shift ?_
   simp only [impl_refusal.j0, Bool.false_eq_true, if_false, impl_made.f, Option.bind_some]
   refine Ev.pos e3 ?_
   by_cases hk : key < 0
   ·refine Ev.pos hk ?_
    have hd : (!decide (key ≥ 0)) = true := by simp; omega
    by_cases a5 : a = 5
    ·refine Ev.rpos a5 ?_; rw [hd]; exact Ev.pos a5 (Ev.now _)
    ·refine Ev.rneg a5 ?_
     refine Ev.neg a5 ?_
     by_cases a10 : a = 10
     ·refine Ev.rpos a10 ?_; rw [hd]
      refine Ev.pos a10 (Ev.val ?_)
      by_cases hs : s = 5
      ·rw [if_pos hs]; exact beq_iff_eq.mpr hs
      ·rw [if_neg hs]; exact beq_eq_false_iff_ne.mpr hs
     ·refine Ev.rneg a10 ?_; exact Ev.neg a10 (Ev.now _)
   ·refine Ev.neg hk (Ev.val ?_)
    have hd : (!decide (key ≥ 0)) = false := by simp; omega
    rw [hd]
    simp
 by_cases e4 : code = 4
 ·have go : ∀ m n : Bool, m = (a == 8) → Ev (fun k => impl_refusal.j1 k code m h s a b c) (if a = 8 then s != 0 else if a = 9 then (if s = 0 then true else (s == 5)) else if a = 10 then !(s == 5) else false) := fun m n hm => by
   subst hm
   refine Ev.shift ?_
   simp only [impl_refusal.j1, impl_made.f, Option.bind_some, beq_iff_eq]
   by_cases a8 : a = 8
   ·refine Ev.rpos a8 ?_; exact Ev.pos a8 (Ev.now _)
   ·refine Ev.rneg a8 ?_
    refine Ev.neg a8 (Ev.pos e4 (Ev.shift ?_))
    simp only [impl_refusal.j2, impl_made.f, Option.bind_some, beq_iff_eq]
    by_cases a9 : a = 9
    ·refine Ev.rpos a9 ?_
     refine Ev.pos a9 ?_
     by_cases hs : s = 0
     ·refine Ev.rpos hs ?_; exact Ev.pos hs (Ev.now _)
     ·refine Ev.rneg hs ?_; exact Ev.neg hs (Ev.now _)
    ·refine Ev.rneg a9 ?_
     refine Ev.neg a9 (Ev.pos e4 ?_)
     by_cases a10 : a = 10
     ·refine Ev.rpos a10 ?_; exact Ev.pos a10 (Ev.now _)
     ·refine Ev.rneg a10 ?_; exact Ev.neg a10 (Ev.now _)
  refine ⟨if a = 8 then s != 0 else if a = 9 then (if s = 0 then true else (s == 5)) else if a = 10 then !(s == 5) else false, Ev.bind k1 (Ev.neg e1 (Ev.neg e2 (Ev.neg e3 (Ev.pos e4 ?_)))), Ev.bind k2 (Ev.neg e1 (Ev.neg e2 (Ev.neg e3 (Ev.shift ?_))))⟩
  ·by_cases a8 : a = 8
   ·refine Ev.rpos a8 ?_; exact Ev.pos a8 (Ev.now _)
   ·refine Ev.rneg a8 ?_
    refine Ev.neg a8 ?_
    by_cases a9 : a = 9
    ·refine Ev.rpos a9 ?_
     refine Ev.pos a9 ?_
     by_cases hs : s = 0
     ·refine Ev.rpos hs ?_; exact Ev.pos hs (Ev.now _)
     ·refine Ev.rneg hs ?_; exact Ev.neg hs (Ev.now _)
    ·refine Ev.rneg a9 ?_
     refine Ev.neg a9 ?_
     by_cases a10 : a = 10
     ·refine Ev.rpos a10 ?_; exact Ev.pos a10 (Ev.now _)
     ·refine Ev.rneg a10 ?_; exact Ev.neg a10 (Ev.now _)
  ·simp only [impl_refusal.j0, Bool.false_eq_true, if_false, impl_made.f, Option.bind_some]
   exact Ev.neg e3 (Ev.pos e4 (go _ true rfl))
 ·refine ⟨false, Ev.bind k1 (Ev.neg e1 (Ev.neg e2 (Ev.neg e3 (Ev.neg e4 (Ev.now _))))), Ev.bind k2 (Ev.neg e1 (Ev.neg e2 (Ev.neg e3 (Ev.shift ?_))))⟩
  simp only [impl_refusal.j0, Bool.false_eq_true, if_false]
  refine Ev.neg e3 (Ev.neg e4 (Ev.shift ?_))
  simp only [impl_refusal.j1, Bool.false_eq_true, if_false]
  refine Ev.neg e4 (Ev.shift ?_)
  simp only [impl_refusal.j2, Bool.false_eq_true, if_false]
  exact Ev.neg e4 (Ev.now _)
theorem done_both (h : List Int) (s a b c : Int) (ho : opOk a b c = true) (hl : h.length = 4) (hs : 0 ≤ s ∧ s ≤ 5) : ∃ r : List Int × Bool, r.1.length ≤ 4 ∧ Ev (fun k => spec_l4Done.f k h s a b c) r ∧ Ev (fun k => impl_success.f k h s a b c) r := by
 obtain ⟨key, k1, k2⟩ := keyBoth h (by omega) s c
 obtain ⟨many, m1, m2⟩ := manyBoth h (by omega) s b
 have hb : 1 ≤ a ∧ a ≤ 4 → 0 ≤ b ∧ b < (h.length : Int) := fun ha => by have := op_key ho ha; omega
 simp only [spec_l4Done.f, impl_success.f, Option.bind_some]
 by_cases a1 : a = 1
 ·obtain ⟨b1, b2⟩ := hb (by omega)
  by_cases z : rd h b = 0
  ·exact ⟨([], decide (key < 0)), Nat.zero_le _, Ev.bind k1 (Ev.pos a1 (Ev.pos b1 (Ev.pos b2 (Ev.pos z (Ev.now _))))), Ev.bind k2 (Ev.pos a1 (Ev.pos b1 (Ev.pos b2 (Ev.pos z (Ev.now _)))))⟩
  ·exact ⟨([], false), Nat.zero_le _, Ev.bind k1 (Ev.pos a1 (Ev.pos b1 (Ev.pos b2 (Ev.neg z (Ev.now _))))), Ev.bind k2 (Ev.pos a1 (Ev.pos b1 (Ev.pos b2 (Ev.neg z (Ev.now _)))))⟩
 by_cases a2 : a = 2
 ·obtain ⟨b1, b2⟩ := hb (by omega)
  by_cases z : rd h b = 0
  ·exact ⟨([], false), Nat.zero_le _, Ev.bind k1 (Ev.neg a1 (Ev.pos a2 (Ev.pos b1 (Ev.pos b2 (Ev.pos z (Ev.now _)))))), Ev.bind k2 (Ev.neg a1 (Ev.pos a2 (Ev.pos b1 (Ev.pos b2 (Ev.pos z (Ev.now _))))))⟩
  ·by_cases y : key < 0
   ·exact ⟨([], true), Nat.zero_le _, Ev.bind k1 (Ev.neg a1 (Ev.pos a2 (Ev.pos b1 (Ev.pos b2 (Ev.neg z (Ev.pos y (Ev.now _))))))), Ev.bind k2 (Ev.neg a1 (Ev.pos a2 (Ev.pos b1 (Ev.pos b2 (Ev.neg z (Ev.pos y (Ev.now _)))))))⟩
   ·exact ⟨([], key == b), Nat.zero_le _, Ev.bind k1 (Ev.neg a1 (Ev.pos a2 (Ev.pos b1 (Ev.pos b2 (Ev.neg z (Ev.neg y (Ev.now _))))))), Ev.bind k2 (Ev.neg a1 (Ev.pos a2 (Ev.pos b1 (Ev.pos b2 (Ev.neg z (Ev.neg y (Ev.now _)))))))⟩
 by_cases a3 : a = 3
 ·obtain ⟨b1, b2⟩ := hb (by omega)
  exact ⟨([], rd h b != 0), Nat.zero_le _, Ev.bind k1 (Ev.neg a1 (Ev.neg a2 (Ev.pos a3 (Ev.pos b1 (Ev.pos b2 (Ev.now _)))))), Ev.bind k2 (Ev.neg a1 (Ev.neg a2 (Ev.pos a3 (Ev.pos b1 (Ev.pos b2 (Ev.now _))))))⟩
 by_cases a4 : a = 4
 ·obtain ⟨b1, b2⟩ := hb (by omega)
  exact ⟨([rd h b], rd h b != 0), by simp, Ev.bind k1 (Ev.neg a1 (Ev.neg a2 (Ev.neg a3 (Ev.pos a4 (Ev.pos b1 (Ev.pos b2 (Ev.now _))))))), Ev.bind k2 (Ev.neg a1 (Ev.neg a2 (Ev.neg a3 (Ev.pos a4 (Ev.pos b1 (Ev.pos b2 (Ev.now _)))))))⟩
 by_cases a5 : a = 5
 ·exact ⟨([key], decide (key ≥ 0)), by simp, Ev.bind k1 (Ev.neg a1 (Ev.neg a2 (Ev.neg a3 (Ev.neg a4 (Ev.pos a5 (Ev.now _)))))), Ev.bind k2 (Ev.neg a1 (Ev.neg a2 (Ev.neg a3 (Ev.neg a4 (Ev.pos a5 (Ev.now _))))))⟩
 by_cases a6 : a = 6
 ·exact ⟨([many], true), by simp, Ev.bind k1 (Ev.neg a1 (Ev.neg a2 (Ev.neg a3 (Ev.neg a4 (Ev.neg a5 (Ev.pos a6 (Ev.bind m1 (Ev.now _)))))))), Ev.bind k2 (Ev.neg a1 (Ev.neg a2 (Ev.neg a3 (Ev.neg a4 (Ev.neg a5 (Ev.pos a6 (Ev.bind m2 (Ev.now _))))))))⟩
 by_cases a7 : a = 7
 ·refine ⟨(h, true), by simp; omega, Ev.bind k1 (Ev.neg a1 (Ev.neg a2 (Ev.neg a3 (Ev.neg a4 (Ev.neg a5 (Ev.neg a6 (Ev.pos a7 (Ev.pos ?_ (Ev.val ?_))))))))), Ev.bind k2 (Ev.neg a1 (Ev.neg a2 (Ev.neg a3 (Ev.neg a4 (Ev.neg a5 (Ev.neg a6 (Ev.pos a7 (Ev.now _))))))))⟩
  ·simp only [List.length_nil]; omega
  ·rw [List.nil_append]
 by_cases a8 : a = 8
 ·exact ⟨([], s == 0), Nat.zero_le _, Ev.bind k1 (Ev.neg a1 (Ev.neg a2 (Ev.neg a3 (Ev.neg a4 (Ev.neg a5 (Ev.neg a6 (Ev.neg a7 (Ev.pos a8 (Ev.now _))))))))), Ev.bind k2 (Ev.neg a1 (Ev.neg a2 (Ev.neg a3 (Ev.neg a4 (Ev.neg a5 (Ev.neg a6 (Ev.neg a7 (Ev.pos a8 (Ev.now _)))))))))⟩
 by_cases a9 : a = 9
 ·refine ⟨([], decide (1 ≤ s ∧ s ≤ 4)), Nat.zero_le _, Ev.bind k1 (Ev.neg a1 (Ev.neg a2 (Ev.neg a3 (Ev.neg a4 (Ev.neg a5 (Ev.neg a6 (Ev.neg a7 (Ev.neg a8 (Ev.pos a9 ?_))))))))), Ev.bind k2 (Ev.neg a1 (Ev.neg a2 (Ev.neg a3 (Ev.neg a4 (Ev.neg a5 (Ev.neg a6 (Ev.neg a7 (Ev.neg a8 (Ev.pos a9 ?_)))))))))⟩
  ·simp only [specIn_eq, Option.bind_some]; exact Ev.now _
  ·simp only [impl_made.f, Option.bind_some]
   by_cases z : s = 0
   ·refine Ev.pos z (Ev.val ?_)
    have : ¬ (1 ≤ s ∧ s ≤ 4) := by omega
    simp only [this, decide_false]
   ·refine Ev.neg z (Ev.val ?_)
    congr 1
    by_cases y : s = 5
    ·subst y; decide
    ·have e1 : (s == 5) = false := beq_eq_false_iff_ne.mpr y
     have e2 : 1 ≤ s ∧ s ≤ 4 := by omega
     simp only [e1, e2, and_self, decide_true, Bool.not_false]
 ·refine ⟨if s = 5 then ([key], decide (key ≥ 0)) else ([key], false), by split <;> simp, Ev.bind k1 (Ev.neg a1 (Ev.neg a2 (Ev.neg a3 (Ev.neg a4 (Ev.neg a5 (Ev.neg a6 (Ev.neg a7 (Ev.neg a8 (Ev.neg a9 ?_))))))))), Ev.bind k2 (Ev.neg a1 (Ev.neg a2 (Ev.neg a3 (Ev.neg a4 (Ev.neg a5 (Ev.neg a6 (Ev.neg a7 (Ev.neg a8 (Ev.neg a9 ?_)))))))))⟩
  ·by_cases z : s = 5
   ·refine Ev.rpos z ?_; exact Ev.pos z (Ev.now _)
   ·refine Ev.rneg z ?_; exact Ev.neg z (Ev.now _)
  ·simp only [impl_made.f, Option.bind_some]
   by_cases y : key ≥ 0
   ·refine Ev.pos y (Ev.val ?_)
    by_cases z : s = 5
    ·rw [if_pos z]; subst z; simp only [y, decide_true]; rfl
    ·rw [if_neg z, beq_eq_false_iff_ne.mpr z]
   ·refine Ev.neg y (Ev.val ?_)
    simp only [y, decide_false]
    split <;> rfl
theorem allowed_both (h : List Int) (s a b c code : Int) (l : List Int) (hl : h.length ≤ 1048576) (hll : l.length ≤ 1048576) :
  ∃ r : Bool, Ev (fun k => spec_Allowed.f k h s a b c code l) r ∧ Ev (fun k => impl_Allowed.f k h s a b c code l) r ∧ (r = true → opOk a b c = true ∧ h.length = 4) := by
 simp only [spec_Allowed.f, impl_Allowed.f]
 have bad1 : Ev (fun k => spec_Allowed.j0 k true h s a b c code l) false := Ev.shift (by simp only [spec_Allowed.j0, if_true]; exact Ev.now _)
 have bad2 : Ev (fun k => impl_Allowed.j0 k true h s a b c code l) false := Ev.shift (by simp only [impl_Allowed.j0, if_true]; exact Ev.now _)
 have r1 := spec_RowsOk_ev h s hl
 have r2 := impl_RowsOk_ev h s hl
 cases hk : okB h 0 s
 ·rw [hk] at r1 r2
  exact ⟨false, Ev.bind r1 (Ev.neg (by decide) bad1), Ev.bind r2 (Ev.neg (by decide) bad2), fun a => Bool.noConfusion a⟩
 rw [hk] at r1 r2
 obtain ⟨h4, s0, s5, _⟩ := okB_elim hk
 have o1 := spec_OpOk_ev a b c
 have o2 := impl_OpOk_ev a b c
 cases ho : opOk a b c
 ·rw [ho] at o1 o2
  exact ⟨false, Ev.bind r1 (Ev.pos rfl (Ev.bind o1 bad1)), Ev.bind r2 (Ev.pos rfl (Ev.bind o2 bad2)), fun a => Bool.noConfusion a⟩
 rw [ho] at o1 o2
 by_cases z : code = 0
 ·obtain ⟨q, q0, q1, q2⟩ := done_both h s a b c ho h4 ⟨s0, s5⟩
  refine ⟨if q.2 = true then decide (q.1 = l) else false, Ev.bind r1 (Ev.pos rfl (Ev.bind o1 (Ev.shift ?_))), Ev.bind r2 (Ev.pos rfl (Ev.bind o2 (Ev.shift ?_))), fun _ => ⟨rfl, h4⟩⟩
  ·simp only [spec_Allowed.j0, Bool.not_true, Bool.false_eq_true, if_false]
   refine Ev.pos z (Ev.bind q1 ?_)
   cases hq : q.2
   ·exact Ev.neg (by decide) (Ev.now _)
   ·exact Ev.pos rfl (Ev.bind (ints_ev q.1 l (by omega) hll) (Ev.now _))
  ·simp only [impl_Allowed.j0, Bool.not_true, Bool.false_eq_true, if_false]
   refine Ev.pos z (Ev.bind q2 ?_)
   cases hq : q.2
   ·exact Ev.neg (by decide) (Ev.now _)
   ·exact Ev.pos rfl (Ev.bind (equal_ev q.1 l (by omega)) (Ev.now _))
 ·obtain ⟨q, q1, q2⟩ := fails_both h s a b c code ho h4
  refine ⟨if (l.length : Int) = 0 then q else false, Ev.bind r1 (Ev.pos rfl (Ev.bind o1 (Ev.shift ?_))), Ev.bind r2 (Ev.pos rfl (Ev.bind o2 (Ev.shift ?_))), fun _ => ⟨rfl, h4⟩⟩
  ·simp only [spec_Allowed.j0, Bool.not_true, Bool.false_eq_true, if_false]
   refine Ev.neg z ?_
   by_cases y : (l.length : Int) = 0
   ·refine Ev.rpos y ?_; exact Ev.pos y (Ev.bind q1 (Ev.now _))
   ·refine Ev.rneg y ?_; exact Ev.neg y (Ev.now _)
  ·simp only [impl_Allowed.j0, Bool.not_true, Bool.false_eq_true, if_false]
   refine Ev.neg z ?_
   by_cases y : (l.length : Int) = 0
   ·refine Ev.rpos y ?_; exact Ev.pos y (Ev.bind q2 (Ev.now _))
   ·refine Ev.rneg y ?_; exact Ev.neg y (Ev.now _)
theorem specCopy_ev (h : List Int) (s : Int) (hl : h.length ≤ 1048576) : spec_l3Copy.f h s = some (h, s) := by
 have : ([] : List Int).length + h.length < 17592186044416 := by simp only [List.length_nil]; omega
 simp only [spec_l3Copy.f, Option.bind_some, this, if_true, List.nil_append]
theorem implCopy_ev (h : List Int) (s : Int) (hl : h.length ≤ 1048576) : impl_copyRows.f h s = some (h, s) := by
 have : h.length ≤ 17592186044416 := by omega
 simp only [impl_copyRows.f, slices_Clone_int_int.f, this, if_true, Option.bind_some]
theorem after_both (h : List Int) (s a b c code : Int) (l : List Int) (hl : h.length ≤ 1048576) (hll : l.length ≤ 1048576) :
  ∃ r : List Int × Int, r.1.length = h.length ∧ Ev (fun k => spec_After.f k h s a b c code l) r ∧ Ev (fun k => impl_After.f k h s a b c code l) r := by
 obtain ⟨q, q1, q2, q3⟩ := allowed_both h s a b c code l hl hll
 simp only [spec_After.f, impl_After.f, specCopy_ev h s hl, implCopy_ev h s hl, Option.bind_some]
 have bad1 : Ev (fun k => spec_After.j0 k true h s a b c h s) (h, s) := Ev.shift (by simp only [spec_After.j0, if_true]; exact Ev.now _)
 have bad2 : Ev (fun k => impl_After.j0 k true a b c h s) (h, s) := Ev.shift (by simp only [impl_After.j0, if_true]; exact Ev.now _)
 cases q with
 | false => exact ⟨(h, s), rfl, Ev.bind q1 (Ev.neg (by decide) bad1), Ev.bind q2 (Ev.neg (by decide) bad2)⟩
 | true =>
  obtain ⟨ho, h4⟩ := q3 rfl
  have hb : 1 ≤ a ∧ a ≤ 4 → 0 ≤ b ∧ b < (h.length : Int) := fun ha => by have := op_key ho ha; omega
  by_cases z : code = 0
  ·have ez : (code != 0) = false := by rw [z]; rfl
   simp only [ez]
   by_cases a1 : a = 1
   ·obtain ⟨b1, b2⟩ := hb (by omega)
    have ea : (a == 1) = true := beq_iff_eq.mpr a1
    refine ⟨(h.set b.toNat c, s), by simp, Ev.bind q1 (Ev.pos rfl (Ev.shift ?_)), Ev.bind q2 (Ev.pos rfl (Ev.shift ?_))⟩
    ·simp only [spec_After.j0, Bool.false_eq_true, if_false, ea]
     refine Ev.pos a1 (Ev.shift ?_)
     simp only [spec_After.j1, if_true]
     exact Ev.pos b1 (Ev.pos b2 (Ev.now _))
    ·simp only [impl_After.j0, Bool.false_eq_true, if_false, ea]
     refine Ev.pos a1 (Ev.shift ?_)
     simp only [impl_After.j1, if_true]
     exact Ev.pos b1 (Ev.pos b2 (Ev.now _))
   by_cases a2 : a = 2
   ·obtain ⟨b1, b2⟩ := hb (by omega)
    have ea : (a == 2) = true := beq_iff_eq.mpr a2
    refine ⟨(h.set b.toNat c, s), by simp, Ev.bind q1 (Ev.pos rfl (Ev.shift ?_)), Ev.bind q2 (Ev.pos rfl (Ev.shift ?_))⟩
    ·simp only [spec_After.j0, Bool.false_eq_true, if_false, ea]
     refine Ev.neg a1 (Ev.shift ?_)
     simp only [spec_After.j1, if_true]
     exact Ev.pos b1 (Ev.pos b2 (Ev.now _))
    ·simp only [impl_After.j0, Bool.false_eq_true, if_false, ea]
     refine Ev.neg a1 (Ev.shift ?_)
     simp only [impl_After.j1, if_true]
     exact Ev.pos b1 (Ev.pos b2 (Ev.now _))
   have ea : (a == 2) = false := beq_eq_false_iff_ne.mpr a2
   by_cases a3 : a = 3
   ·obtain ⟨b1, b2⟩ := hb (by omega)
    refine ⟨(h.set b.toNat 0, s), by simp, Ev.bind q1 (Ev.pos rfl (Ev.shift ?_)), Ev.bind q2 (Ev.pos rfl (Ev.shift ?_))⟩
    ·simp only [spec_After.j0, Bool.false_eq_true, if_false, ea]
     refine Ev.neg a1 (Ev.shift ?_)
     simp only [spec_After.j1, Bool.false_eq_true, if_false]
     exact Ev.pos a3 (Ev.pos b1 (Ev.pos b2 (Ev.now _)))
    ·simp only [impl_After.j0, Bool.false_eq_true, if_false, ea]
     refine Ev.neg a1 (Ev.shift ?_)
     simp only [impl_After.j1, Bool.false_eq_true, if_false]
     exact Ev.pos a3 (Ev.pos b1 (Ev.pos b2 (Ev.now _)))
   ·refine ⟨if a = 8 then (h, wrap64 (s + 1)) else if a = 9 then (h, wrap64 (s + 1)) else (h, s), by split; rfl; split <;> rfl, Ev.bind q1 (Ev.pos rfl (Ev.shift ?_)), Ev.bind q2 (Ev.pos rfl (Ev.shift ?_))⟩
    ·simp only [spec_After.j0, Bool.false_eq_true, if_false, ea]
     refine Ev.neg a1 (Ev.shift ?_)
     simp only [spec_After.j1, Bool.false_eq_true, if_false]
     refine Ev.neg a3 ?_
     by_cases a8 : a = 8
     ·refine Ev.rpos a8 ?_; exact Ev.pos a8 (Ev.now _)
     ·refine Ev.rneg a8 ?_
      refine Ev.neg a8 ?_
      by_cases a9 : a = 9
      ·refine Ev.rpos a9 ?_; exact Ev.pos a9 (Ev.now _)
      ·refine Ev.rneg a9 ?_; exact Ev.neg a9 (Ev.now _)
    ·simp only [impl_After.j0, Bool.false_eq_true, if_false, ea]
     refine Ev.neg a1 (Ev.shift ?_)
     simp only [impl_After.j1, Bool.false_eq_true, if_false]
     refine Ev.neg a3 ?_
     by_cases a8 : a = 8
     ·refine Ev.rpos a8 ?_; exact Ev.pos a8 (Ev.now _)
     ·refine Ev.rneg a8 ?_
      refine Ev.neg a8 ?_
      by_cases a9 : a = 9
      ·refine Ev.rpos a9 ?_; exact Ev.pos a9 (Ev.now _)
      ·refine Ev.rneg a9 ?_; exact Ev.neg a9 (Ev.now _)
  ·have ez : (code != 0) = true := by simp [z]
   simp only [ez]
   exact ⟨(h, s), rfl, Ev.bind q1 (Ev.pos rfl bad1), Ev.bind q2 (Ev.pos rfl bad2)⟩
def smC (c : List mC) : Prop := ∀ x ∈ c, x.f5.f1.length ≤ 1048576
theorem replay_both (w : List mW) (d : List mD) (t : List mT) (tm : Int) (c : List mC) (o q : List Int) (s : Int) (h : smM w d t c o q) (hc : smC c) :
  ∃ r : List Int × Int × Bool, r.1.length ≤ 1048576 ∧ Ev (fun k => spec_Replay.f k w d t tm c o q s) r ∧ Ev (fun k => impl_Replay.f k w d t tm c o q s) r := by
 have h1 := spec_MachineOk_b w d t tm c o q s h
 have h2 := impl_MachineOk_b w d t tm c o q s h
 obtain ⟨s1, s2, s3, s4, s5, s6, s7, s8⟩ := h
 simp only [spec_Replay.f, impl_Replay.f, specCopy_ev q s s8, implCopy_ev q s s8, Option.bind_some]
 by_cases hp : machP w d t tm c o q s
 ·have ord := hp.2.2.2.2.1.2.2.1
  have key : ∀ (n i : Nat) (b : Bool) (l : List Int) (z : Int), i + n = o.length → l.length ≤ 1048576 → ∃ r : List Int × Int × Bool, r.1.length ≤ 1048576 ∧ Ev (fun k => spec_Replay.l0 k b (i : Int) w d t tm c o q s l z) r ∧ Ev (fun k => impl_Replay.l0 k b o (o.length : Int) (i : Int) w d t tm c o q s l z) r := by
   intro n
   induction n with
   | zero =>
    intro i b l z hi hl
    obtain rfl : i = o.length := by omega
    refine ⟨(l, z, b), hl, Ev.shift ?_, Ev.shift ?_⟩
    ·simp only [spec_Replay.l0, Int.lt_irrefl, if_false]; exact Ev.now _
    ·simp only [impl_Replay.l0, Int.lt_irrefl, if_false]; exact Ev.now _
   | succ n ih =>
    intro i b l z hi hl
    have hil : i < o.length := by omega
    have c0 : (0 : Int) ≤ (i : Int) := by omega
    have c1 : (i : Int) < (o.length : Int) := by omega
    obtain ⟨g1, g2⟩ := (ord i hil).1
    have g3 : rd o (i : Int) < (c.length : Int) := by omega
    obtain ⟨j, hj⟩ : ∃ j : Nat, rd o (i : Int) = (j : Int) := ⟨(rd o (i : Int)).toNat, by omega⟩
    have hjl : j < c.length := by omega
    have er : rd_T73 c (rd o (i : Int)) = c[j] := by rw [hj]; exact getD_get (List.getElem?_eq_getElem hjl)
    have hs := hc _ (List.getElem_mem hjl)
    obtain ⟨y, y0, y1, y2⟩ := after_both l z c[j].f1.f0 c[j].f1.f1 c[j].f1.f2 c[j].f5.f0 c[j].f5.f1 hl hs
    obtain ⟨a, a1, a2, _⟩ := allowed_both l z c[j].f1.f0 c[j].f1.f1 c[j].f1.f2 c[j].f5.f0 c[j].f5.f1 hl hs
    cases b with
    | true =>
     obtain ⟨r, r0, r1, r2⟩ := ih (i + 1) a y.1 y.2 (by omega) (by omega)
     refine ⟨r, r0, Ev.shift ?_, Ev.shift ?_⟩
     ·simp only [spec_Replay.l0, c0, c1, g1, g3, if_true, er, succ64 hil (by omega)]
      exact Ev.bind a1 (Ev.bind y1 r1)
     ·simp only [impl_Replay.l0, c0, c1, g1, g3, if_true, er, succ64 hil (by omega)]
      exact Ev.bind a2 (Ev.bind y2 r2)
    | false =>
     obtain ⟨r, r0, r1, r2⟩ := ih (i + 1) false y.1 y.2 (by omega) (by omega)
     refine ⟨r, r0, Ev.shift ?_, Ev.shift ?_⟩
     ·simp only [spec_Replay.l0, c0, c1, g1, g3, if_true, er, succ64 hil (by omega), Bool.false_eq_true, if_false]
      exact Ev.bind y1 r1
     ·simp only [impl_Replay.l0, c0, c1, g1, g3, if_true, er, succ64 hil (by omega), Bool.false_eq_true, if_false]
      exact Ev.bind y2 r2
  obtain ⟨r, r0, r1, r2⟩ := key o.length 0 true q s (by omega) s8
  exact ⟨r, r0, Ev.bind (h1.val hp) (Ev.pos rfl r1), Ev.bind (h2.val hp) (Ev.pos rfl r2)⟩
 ·exact ⟨([], 0, false), Nat.zero_le _, Ev.bind (h1.nval hp) (Ev.neg (by decide) (Ev.now _)), Ev.bind (h2.nval hp) (Ev.neg (by decide) (Ev.now _))⟩
theorem machine_law (x : S32) (hx : wf32 x) (sp im : Nat → List mW → List mD → List mT → Int → List mC → List Int → List Int → Int → Option Bool)
  (hb : ∀ (w : List mW) (d : List mD) (t : List mT) (tm : Int) (c : List mC) (o q : List Int) (s : Int), smM w d t c o q → smC c → okWs w → okDs d → ∃ r : Bool, Ev (fun k => sp k w d t tm c o q s) r ∧ Ev (fun k => im k w d t tm c o q s) r) :
  Ev (fun k => (laws_szMachine.f k x.f0.f0 x.f0.f1 x.f1 x.f2 x.f3 x.f4 x.f5.f0 x.f5.f1 1048576).bind fun t102 => (if t102 < 0 then (some true) else ((laws_toMachine.f k x.f0.f0 x.f0.f1 x.f1 x.f2 x.f3 x.f4 x.f5.f0 x.f5.f1).bind fun bt103 => ((sp k bt103.1 bt103.2.1 bt103.2.2.1 bt103.2.2.2.1 bt103.2.2.2.2.1 bt103.2.2.2.2.2.1 bt103.2.2.2.2.2.2.1 bt103.2.2.2.2.2.2.2).bind fun t123 => ((laws_toMachine.f k x.f0.f0 x.f0.f1 x.f1 x.f2 x.f3 x.f4 x.f5.f0 x.f5.f1).bind fun bt124 => ((im k bt124.1 bt124.2.1 bt124.2.2.1 bt124.2.2.2.1 bt124.2.2.2.2.1 bt124.2.2.2.2.2.1 bt124.2.2.2.2.2.2.1 bt124.2.2.2.2.2.2.2).bind fun t145 => (if (t145 != t123) = true then (some false) else ((laws_toMachine.f k x.f0.f0 x.f0.f1 x.f1 x.f2 x.f3 x.f4 x.f5.f0 x.f5.f1).bind fun bt146 => ((laws_eqMachine.f k bt124.1 bt124.2.1 bt124.2.2.1 bt124.2.2.2.1 bt124.2.2.2.2.1 bt124.2.2.2.2.2.1 bt124.2.2.2.2.2.2.1 bt124.2.2.2.2.2.2.2 bt146.1 bt146.2.1 bt146.2.2.1 bt146.2.2.2.1 bt146.2.2.2.2.1 bt146.2.2.2.2.2.1 bt146.2.2.2.2.2.2.1 bt146.2.2.2.2.2.2.2).bind fun t166 => (if t166 = true then (some true) else (some false))))))))))) true := by
 obtain ⟨⟨⟨w1, w2⟩, ⟨d1, d2⟩⟩, ⟨t1, t2⟩, _, ⟨c1, c2⟩, ⟨p1, p2⟩, ⟨⟨q1, q2⟩, _⟩⟩ := hx
 have hd : wfDs x.f0.f1 := ⟨d1, fun y hy => ⟨(d2 y hy).2.2.1.1, (d2 y hy).2.2.2.2.1⟩⟩
 have ht : wfTs x.f1 := ⟨t1, fun y hy => ⟨(t2 y hy).1.1, (t2 y hy).2.2.2.1.1, (t2 y hy).2.2.2.2.1⟩⟩
 have hc : wfCs x.f3 := ⟨c1, fun y hy => (c2 y hy).2.2.2.2.2.2.1⟩
 refine Ev.bind (szMachine_ev x.f0.f0 x.f0.f1 x.f1 x.f2 x.f3 x.f4 x.f5.f0 x.f5.f1 1048576 (by decide) (by decide) w1 hd ht hc p1 q1) ?_
 by_cases h : wtMem x.f0.f0 x.f0.f1 + wtTail x.f1 x.f3 x.f4 x.f5.f0 ≤ 1048576
 ·have n1 := ctl_nonneg wtDesc_nn x.f0.f1
  have n2 := ctl_nonneg wtThread_nn x.f1
  have n3 := ctl_nonneg wtCall_nn x.f3
  have hW := h
  unfold wtMem wtTail at hW
  have hto := toMachine_ev x.f0.f0 x.f0.f1 x.f1 x.f2 x.f3 x.f4 x.f5.f0 x.f5.f1 h
  have heq := eqMachine_ev x.f0.f0 x.f0.f1 x.f1 x.f2 x.f3 x.f4 x.f5.f0 x.f5.f1 h
  have ow : okWs (x.f0.f0.map cWord) := fun y hy => by
   obtain ⟨a, ha, rfl⟩ := List.mem_map.mp hy
   exact i64_wf (w2 a ha).1
  have od : okDs (x.f0.f1.map cDesc) := fun y hy => by
   obtain ⟨a, ha, rfl⟩ := List.mem_map.mp hy
   have hm := Int.le_trans (ctl_mem wtDesc_nn ha) (show ctl wtDesc x.f0.f1 ≤ 1048576 by omega)
   refine ⟨(smDesc_of a hm).1, fun e he => ?_⟩
   obtain ⟨b, hb, rfl⟩ := List.mem_map.mp he
   have hw := (d2 a ha).2.2.1.2 b hb
   exact ⟨i64_wf hw.2.1, i64_wf hw.2.2⟩
  have st : ∀ y ∈ x.f1.map cThread, smT y := fun y hy => by
   obtain ⟨a, ha, rfl⟩ := List.mem_map.mp hy
   exact smThread_of a (Int.le_trans (ctl_mem wtThread_nn ha) (show ctl wtThread x.f1 ≤ 1048576 by omega))
  have sc : smC (x.f3.map cCall) := fun y hy => by
   obtain ⟨a, ha, rfl⟩ := List.mem_map.mp hy
   exact smCall_of a (Int.le_trans (ctl_mem wtCall_nn ha) (show ctl wtCall x.f3 ≤ 1048576 by omega))
  have sM : smM (x.f0.f0.map cWord) (x.f0.f1.map cDesc) (x.f1.map cThread) (x.f3.map cCall) x.f4 x.f5.f0 :=
   ⟨by rw [List.length_map]; omega, by rw [List.length_map]; omega, fun y hy => (od y hy).1, by rw [List.length_map]; omega, st, by rw [List.length_map]; omega, by omega, by omega⟩
  obtain ⟨r, g1, g2⟩ := hb (x.f0.f0.map cWord) (x.f0.f1.map cDesc) (x.f1.map cThread) x.f2 (x.f3.map cCall) x.f4 x.f5.f0 x.f5.f1 sM sc ow od
  rw [lf_pos h]
  refine Ev.neg (by omega) ?_
  refine Ev.bind hto (Ev.bind g1 (Ev.bind hto (Ev.bind g2 ?_)))
  refine Ev.neg (by simp) (Ev.bind hto (Ev.bind heq ?_))
  exact Ev.pos rfl (Ev.now _)
 ·rw [lf_neg h]
  exact Ev.pos (by decide) (Ev.now _)
theorem so_both (w : List mW) (d : List mD) (t : List mT) (tm : Int) (c : List mC) (o q : List Int) (s : Int) (h : smM w d t c o q) (hc : smC c) : ∃ r : Bool, Ev (fun k => spec_JudgeSo.f k w d t tm c o q s) r ∧ Ev (fun k => impl_JudgeSo.f k w d t tm c o q s) r := by
 obtain ⟨r, r0, r1, r2⟩ := replay_both w d t tm c o q s h hc
 exact ⟨r.2.2, by simp only [spec_JudgeSo.f]; exact Ev.bind r1 (Ev.now _), by simp only [impl_JudgeSo.f]; exact Ev.bind r2 (Ev.now _)⟩
theorem pureFnExactJudgeSo : PureFnExactJudgeSo := by
 intro x hx
 refine Ev.rounds ?_
 simp only [laws_FnExactJudgeSo.f]
 exact machine_law x hx (fun k => spec_JudgeSo.f k) (fun k => impl_JudgeSo.f k) (fun w d t tm c o q s h hc ow od => so_both w d t tm c o q s h hc)
end Go.Proofs.YtmljebgideecjaaGreat.P2
namespace Go.Proofs.YtmljebgideecjaaGreat.fnExactJudgeSo
open Go.ChangeShapes Go.WideShapes Go.ChangeAt Go.RowKit Go.Proofs.YtmljebgideecjaaGreatW.PrintWords Go.Proofs.YtmljebgideecjaaGreatW.PrintLast Go.Proofs.YtmljebgideecjaaGreatZ Go.Proofs.YtmljebgideecjaaGreat.P2
open Go.ChangeMaps (open_string shut_string)
theorem own : ownKnob Tryz.prog.godebug = none := by kernel_rfl
theorem laidOut : laidOutB Tryz.prog = true := by kernel_rfl
theorem lifted (os : Os) (started : os.Started) (H : Type) (enc : TypeId × Value → H) :
  ReturnsInHanded {} Tryz.checked os 7 .any (Rows.fnExactJudgeSoSpec.pre6 enc Tryz.prog Tryz.f7 Rows.fnExactJudgeSoRow.domain false) (Rows.fnExactJudgeSoSpec.post enc Tryz.prog Tryz.f7 false true false false) := by
 refine returnsInHanded_of_change_sized (C := Tryz.checked) own started (by kernel_rfl) Tryz.func7
  (ChangeSpec.witness6 (enc := enc) (C := Tryz.checked) false ⟨#[], #[.agg #[.slice none 0 0, .slice none 0 0, .slice none 0 0, .int .i64 0, .slice none 0 0, .slice none 0 0, .slice none 0 0, .int .i64 0]], []⟩ 8 (by kernel_rfl) (by kernel_rfl) (by kernel_rfl) (by kernel_rfl)) ?_
 intro W base args ds gs before hval0 hW hcnd hsz0 _
 have hval : ∀ (j : Nat) t v, Tryz.f7.params[j]? = some t → args[j]? = some v → Value.okWide Tryz.prog W .any base t v := hval0
 have hW' := hW
 obtain ⟨p, q, hA0, hV, rfl, hfz, hnd⟩ := hW
 have hA : DataW.TrodAll enc Tryz.prog W 0 (fun _ => true) true Tryz.f7.params.toList args.toList ds p := hA0
 rw [Tryz.params7] at hA hval
 obtain ⟨v0, vs0, d0, ds0, p0, q0, hargs, rfl, rfl, h0, r0⟩ := trodAll_cons hA
 obtain ⟨rfl, rfl, rfl⟩ := trodAll_nil r0
 obtain rfl : args = #[v0] := by cases args; simp_all
 obtain ⟨rfl, rfl⟩ := trodVars_none hV
 have k0_ := h0
 have lt0 : ∀ x ∈ p0, x.block < W.heap.size := by obtain ⟨m, hm⟩ := k0_; exact DataW.trod_lt m _ _ _ hm
 obtain ⟨cs0, rfl⟩ := okWide_agg Tryz.underlying32 (hval 0 32 v0 rfl rfl)
 obtain ⟨x0, K0, wf0_⟩ := Opens.param op32 h0
 replace K0 : k32.K W x0 cs0.toList := K0
 obtain ⟨A0_0, c0_0, A0_1, c0_1, A0_2, c0_2, A0_4, c0_4, A0_5, c0_5, A0_6, c0_6, e0, l0_0, g0_0, l0_1, g0_1, l0_2, g0_2, l0_4, g0_4, l0_5, g0_5, l0_6, g0_6⟩ := k32_open K0
 obtain rfl := Array.ext' (ys := ⟨_⟩) e0
 obtain ⟨k, hk⟩ := pureFnExactJudgeSo x0 wf0_
 clear hA0 hval0 hsz0
 refine (laws_FnExactJudgeSo.calls k _ _ x0.f0.f0 _ _ x0.f0.f1 _ _ x0.f1 x0.f2 _ _ x0.f3 _ _ x0.f4 _ _ x0.f5.f0 x0.f5.f1 true W g0_0 l0_0 g0_1 l0_1 g0_2 l0_2 g0_4 l0_4 g0_5 l0_5 g0_6 l0_6 hk).mono fun e W' hh => ?_
 obtain ⟨he, bel0⟩ := hh
 have bel : Below W.heap.size W W' := bel0
 subst he
 exact ⟨_, rfl, _, _, _, [], _, [], hW', trodAll_mk1 (shut_bool Tryz.underlying4 _), (trodAll_cons_mk (Below.trod laidOut (by kernel_rfl) (of_decide_eq_true (by kernel_rfl)) k0_ bel lt0) trodAll_mk0), rfl, bel.frame _, fun h => by cases h⟩
theorem over : Rows.fnExactJudgeSoRow.holds Tryz.pinned (OpenSpec.ofChange Rows.fnExactJudgeSoSpec) :=
 OpenClaim.holds_of_wide 7 Tryz.f7 rfl rfl rfl rfl rfl rfl rfl ⟨rfl, rfl, rfl, rfl, rfl⟩ rfl rfl rfl rfl rfl (by kernel_rfl) Tryz.func7 (by kernel_rfl)
  (of_decide_eq_true (by kernel_rfl)) (by unfold Func.isWrapper; first | (rw [if_pos (by decide +kernel)]; kernel_rfl) | (rw [if_neg (by decide +kernel)]; exact ⟨rfl, rfl⟩))
  (fun os started H enc _ => lifted os started H enc)
theorem proved : Rows.FnExactJudgeSoSaid := over
#print axioms proved
end Go.Proofs.YtmljebgideecjaaGreat.fnExactJudgeSo
namespace Go.Proofs.YtmljebgideecjaaGreat
theorem fnExactJudgeSo_holds : Rows.FnExactJudgeSoSaid := fnExactJudgeSo.proved
end Go.Proofs.YtmljebgideecjaaGreat
