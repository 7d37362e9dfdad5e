/- The law FnExactMachineText holds: for every input the call returns true, and each argument reads afterwards as_ it read before. Conditions: none. Written by a program of this session. -/
import Derived.Test.YtmljebgideecjaaGreatRows
import Derived.WalkKit
import Derived.ProofKit
import Derived.OpenShut
import Derived.ShutString
import Derived.ChangeOld
import Derived.Below
import Derived.SizedLaws
import Derived.Carry
import Derived.Test.YtmljebgideecjaaGreatPkFnExactMachineText4
section
set_option linter.unusedSimpArgs false
set_option linter.unusedVariables false
namespace Go.Proofs.YtmljebgideecjaaGreat.P
open Go.RowKit Go.Proofs.YtmljebgideecjaaGreatW.PrintWords Go.Proofs.YtmljebgideecjaaGreatW.PrintLast Go.Proofs.YtmljebgideecjaaGreatZ
def rtext (l : List Int) (n : Int) : ByteArray := (ntext l ++ (⟨#[47]⟩ : ByteArray)) ++ dstr n
theorem spec_RowsText_ev (l : List Int) (n : Int) (hl : l.length ≤ 1048576) (hi64 : i64s l) (h0 : -9223372036854775808 ≤ n) (h1 : n < 9223372036854775808) : Ev (fun k => spec_RowsText.f k l n) (rtext l n) := by
  have hs := ntext_size l hi64
  have hd := dstr_size h0 h1
  simp only [spec_RowsText.f, rtext]
  refine Ev.bind (spec_NumsText_ev l hl hi64) ?_
  have c1 : (ntext l).size + 1 ≤ 9223372036854775807 := by omega
  have c2 : (ntext l ++ (⟨#[47]⟩ : ByteArray)).size + (dstr n).size ≤ 9223372036854775807 := by rw [ByteArray.size_append]; show _ + 1 + _ ≤ _; omega
  simp only [c1, if_true]
  refine Ev.bind (spec_Digits_ev n h0 h1) ?_
  simp only [c2, if_true]
  exact Ev.now _
theorem impl_RowsText_ev (l : List Int) (n : Int) (hl : l.length ≤ 1048576) (hi64 : i64s l) (h0 : -9223372036854775808 ≤ n) (h1 : n < 9223372036854775808) : Ev (fun k => impl_RowsText.f k l n) (rtext l n) := by
  have hs := ntext_size l hi64
  have hd := dstr_size h0 h1
  simp only [impl_RowsText.f, rtext]
  refine Ev.bind (impl_NumsText_ev l hl hi64) ?_
  have c1 : (ntext l).size + 1 ≤ 9223372036854775807 := by omega
  have c2 : (ntext l ++ (⟨#[47]⟩ : ByteArray)).size + (dstr n).size ≤ 9223372036854775807 := by rw [ByteArray.size_append]; show _ + 1 + _ ≤ _; omega
  simp only [c1, if_true]
  refine Ev.bind (impl_Digits_ev n h0 h1) ?_
  simp only [c2, if_true]
  exact Ev.now _
end Go.Proofs.YtmljebgideecjaaGreat.P
end
section
set_option linter.unusedSimpArgs false
set_option linter.unusedVariables false
namespace Go.Proofs.YtmljebgideecjaaGreat.P
open Go.RowKit Go.Proofs.YtmljebgideecjaaGreatW.PrintWords Go.Proofs.YtmljebgideecjaaGreatW.PrintLast Go.Proofs.YtmljebgideecjaaGreatZ
def resN : List ByteArray := [⟨#[100, 111, 110, 101]⟩, ⟨#[116, 104, 101, 114, 101]⟩, ⟨#[116, 97, 107, 101, 110]⟩, ⟨#[110, 111, 110, 101]⟩, ⟨#[110, 111, 116]⟩, ⟨#[119, 104, 97, 116]⟩]
def resN5 : List ByteArray := [⟨#[100, 111, 110, 101]⟩, ⟨#[116, 104, 101, 114, 101]⟩, ⟨#[116, 97, 107, 101, 110]⟩, ⟨#[110, 111, 110, 101]⟩, ⟨#[110, 111, 116]⟩]
def rname (a : Int) : ByteArray := if 0 ≤ a ∧ a ≤ 4 then rdOf ByteArray.empty resN5 a else ⟨#[119, 104, 97, 116]⟩
def restext (a : Int) (l : List Int) : ByteArray := if l.length = 0 then rname a else rname a ++ ((⟨#[32]⟩ : ByteArray) ++ ntext l)
theorem resN_cases {a : Int} (h0 : 0 ≤ a) (h1 : a ≤ 4) : rdOf ByteArray.empty resN a = rdOf ByteArray.empty resN5 a ∧ (rdOf ByteArray.empty resN5 a).size ≤ 5 := by
  have : a = 0 ∨ a = 1 ∨ a = 2 ∨ a = 3 ∨ a = 4 := by omega
  rcases this with rfl | rfl | rfl | rfl | rfl <;> decide +kernel
theorem rname_size (a : Int) : (rname a).size ≤ 5 := by
  unfold rname
  split
  · rename_i h; exact (resN_cases h.1 h.2).2
  · show 4 ≤ 5; decide
theorem restext_size (a : Int) (l : List Int) (h : i64s l) : (restext a l).size ≤ 6 + 21 * l.length := by
  have h1 := rname_size a
  have h2 := ntext_size l h
  unfold restext
  split
  · omega
  · simp only [ByteArray.size_append]; show _ + (1 + _) ≤ _; omega
theorem len6 : (([(⟨#[100, 111, 110, 101]⟩ : ByteArray), (⟨#[116, 104, 101, 114, 101]⟩ : ByteArray), (⟨#[116, 97, 107, 101, 110]⟩ : ByteArray), (⟨#[110, 111, 110, 101]⟩ : ByteArray), (⟨#[110, 111, 116]⟩ : ByteArray), (⟨#[119, 104, 97, 116]⟩ : ByteArray)].length : Nat) : Int) = 6 := rfl
theorem len5 : (([(⟨#[100, 111, 110, 101]⟩ : ByteArray), (⟨#[116, 104, 101, 114, 101]⟩ : ByteArray), (⟨#[116, 97, 107, 101, 110]⟩ : ByteArray), (⟨#[110, 111, 110, 101]⟩ : ByteArray), (⟨#[110, 111, 116]⟩ : ByteArray)].length : Nat) : Int) = 5 := rfl
theorem rd6 {a : Int} (h0 : 0 ≤ a) (h1 : a ≤ 5) : rdOf ByteArray.empty [(⟨#[100, 111, 110, 101]⟩ : ByteArray), (⟨#[116, 104, 101, 114, 101]⟩ : ByteArray), (⟨#[116, 97, 107, 101, 110]⟩ : ByteArray), (⟨#[110, 111, 110, 101]⟩ : ByteArray), (⟨#[110, 111, 116]⟩ : ByteArray), (⟨#[119, 104, 97, 116]⟩ : ByteArray)] a = rname a := by
  by_cases h : a ≤ 4
  · rw [show rname a = rdOf ByteArray.empty resN5 a from if_pos ⟨h0, h⟩]
    exact (resN_cases h0 h).1
  · have : a = 5 := by omega
    subst this
    rfl
theorem rd5 {a : Int} (h0 : 0 ≤ a) (h1 : a ≤ 4) : rdOf ByteArray.empty [(⟨#[100, 111, 110, 101]⟩ : ByteArray), (⟨#[116, 104, 101, 114, 101]⟩ : ByteArray), (⟨#[116, 97, 107, 101, 110]⟩ : ByteArray), (⟨#[110, 111, 110, 101]⟩ : ByteArray), (⟨#[110, 111, 116]⟩ : ByteArray)] a = rname a := (show rname a = rdOf ByteArray.empty resN5 a from if_pos ⟨h0, h1⟩).symm
theorem spec_ResText_ev (a : Int) (l : List Int) (hl : l.length ≤ 1048576) (hi64 : i64s l) : Ev (fun k => spec_ResText.f k a l) (restext a l) := by
  have hs := ntext_size l hi64
  have hr := rname_size a
  have hw : wrap64 ((6 : Int) - 1) = 5 := by unfold wrap64; omega
  have c2 : (rname a).size + 1 ≤ 9223372036854775807 := by omega
  have c3 : (rname a ++ (⟨#[32]⟩ : ByteArray)).size + (ntext l).size ≤ 9223372036854775807 := by rw [ByteArray.size_append]; show _ + 1 + _ ≤ _; omega
  have ha : rname a ++ (⟨#[32]⟩ : ByteArray) ++ ntext l = rname a ++ ((⟨#[32]⟩ : ByteArray) ++ ntext l) := ByteArray.append_assoc
  simp only [spec_ResText.f, spec_l1In.f, Option.bind_some, len6, hw, restext]
  by_cases hin : 0 ≤ a ∧ a ≤ 5
  · have h0 : a ≥ 0 := hin.1
    have h0' : 0 ≤ a := hin.1
    have h1 : a ≤ 5 := hin.2
    have h2 : a < 6 := by omega
    simp only [h0, h0', h1, h2, if_true, decide_true, Option.bind_some, rd6 h0' h1]
    by_cases hz : l.length = 0
    · have c : ¬ ((l.length : Int) > 0) := by omega
      simp only [c, hz, if_true, if_false, Int.lt_irrefl, gt_iff_lt, Int.natCast_zero]
      exact Ev.now _
    · have c : ((l.length : Int) > 0) := by omega
      simp only [c, c2, hz, if_true, if_false]
      refine Ev.bind (spec_NumsText_ev l hl hi64) ?_
      simp only [c3, if_true, ha]
      exact Ev.now _
  · have hn : rname a = rname 5 := by
      rw [show rname a = _ from if_neg (by omega)]; rfl
    rw [hn] at c2 c3 ha ⊢
    have hd : (if a ≥ 0 then some (decide (a ≤ 5)) else some false) = some false := by
      by_cases h0 : a ≥ 0
      · rw [if_pos h0]; simp; omega
      · rw [if_neg h0]
    rw [hd]
    simp only [Option.bind_some, Bool.false_eq_true, if_false, show (0 : Int) ≤ 5 by decide, show (5 : Int) < 6 by decide, if_true, rd6 (show (0 : Int) ≤ 5 by decide) (show (5 : Int) ≤ 5 by decide)]
    by_cases hz : l.length = 0
    · have c : ¬ ((l.length : Int) > 0) := by omega
      simp only [c, hz, if_true, if_false, Int.lt_irrefl, gt_iff_lt, Int.natCast_zero]
      exact Ev.now _
    · have c : ((l.length : Int) > 0) := by omega
      simp only [c, c2, hz, if_true, if_false]
      refine Ev.bind (spec_NumsText_ev l hl hi64) ?_
      simp only [c3, if_true, ha]
      exact Ev.now _
theorem impl_ResText_ev (a : Int) (l : List Int) (hl : l.length ≤ 1048576) (hi64 : i64s l) : Ev (fun k => impl_ResText.f k a l) (restext a l) := by
  have hs := ntext_size l hi64
  have hr := rname_size a
  have c2 : 1 + (ntext l).size ≤ 9223372036854775807 := by omega
  have c3 : (rname a).size + ((⟨#[32]⟩ : ByteArray) ++ ntext l).size ≤ 9223372036854775807 := by rw [ByteArray.size_append]; show _ + (1 + _) ≤ _; omega
  simp only [impl_ResText.f, impl_from.f, Option.bind_some, len5, restext]
  by_cases hin : 0 ≤ a ∧ a ≤ 4
  · have h0 : a ≥ 0 := hin.1
    have h0' : 0 ≤ a := hin.1
    have h1 : a ≤ 4 := hin.2
    have h2 : a < 5 := by omega
    simp only [h0, h0', h1, h2, if_true, decide_true, Option.bind_some, rd5 h0' h1]
    by_cases hz : l.length = 0
    · have c : ¬ ((l.length : Int) > 0) := by omega
      simp only [c, hz, if_true, if_false, Int.lt_irrefl, gt_iff_lt, Int.natCast_zero]
      exact Ev.now _
    · have c : ((l.length : Int) > 0) := by omega
      simp only [c, c2, hz, if_true, if_false]
      refine Ev.bind (impl_NumsText_ev l hl hi64) ?_
      simp only [c2, c3, if_true]
      exact Ev.now _
  · have hn : rname a = (⟨#[119, 104, 97, 116]⟩ : ByteArray) := if_neg hin
    have c4 : 4 + ((⟨#[32]⟩ : ByteArray) ++ ntext l).size ≤ 9223372036854775807 := by rw [ByteArray.size_append]; show 4 + (1 + _) ≤ _; omega
    have hd : (if a ≥ 0 then some (decide (a ≤ 4)) else some false) = some false := by
      by_cases h0 : a ≥ 0
      · rw [if_pos h0]; simp; omega
      · rw [if_neg h0]
    rw [hd, hn]
    simp only [Option.bind_some, Bool.false_eq_true, if_false]
    by_cases hz : l.length = 0
    · have c : ¬ ((l.length : Int) > 0) := by omega
      simp only [c, hz, if_true, if_false, Int.lt_irrefl, gt_iff_lt, Int.natCast_zero]
      exact Ev.now _
    · have c : ((l.length : Int) > 0) := by omega
      simp only [c, hz, if_true, if_false]
      refine Ev.bind (impl_NumsText_ev l hl hi64) ?_
      simp only [c2, c4, if_true]
      exact Ev.now _
end Go.Proofs.YtmljebgideecjaaGreat.P
end
section
set_option linter.unusedSimpArgs false
set_option linter.unusedVariables false
namespace Go.Proofs.YtmljebgideecjaaGreat.P
open Go.RowKit Go.Proofs.YtmljebgideecjaaGreatW.PrintWords Go.Proofs.YtmljebgideecjaaGreatW.PrintLast Go.Proofs.YtmljebgideecjaaGreatZ
def ctext (w a b c at_ kind : Int) (l : List Int) : ByteArray := ((dstr w ++ (⟨#[32]⟩ : ByteArray)) ++ optext a b c) ++ (⟨#[58, 32]⟩ : ByteArray) ++ (if at_ < 0 then (⟨#[111, 112, 101, 110]⟩ : ByteArray) else restext kind l)
theorem ctext_bounds {w a b c kind : Int} {l : List Int} (hw : i64in w) (hb : i64in b) (hc : i64in c) (hl : l.length ≤ 1048576) (hi : i64s l) :
    (dstr w).size + 1 ≤ 9223372036854775807 ∧ (dstr w ++ (⟨#[32]⟩ : ByteArray)).size + (optext a b c).size ≤ 9223372036854775807 ∧ ((dstr w ++ (⟨#[32]⟩ : ByteArray)) ++ optext a b c).size + 2 ≤ 9223372036854775807 ∧
    (((dstr w ++ (⟨#[32]⟩ : ByteArray)) ++ optext a b c) ++ (⟨#[58, 32]⟩ : ByteArray)).size + 4 ≤ 9223372036854775807 ∧ (((dstr w ++ (⟨#[32]⟩ : ByteArray)) ++ optext a b c) ++ (⟨#[58, 32]⟩ : ByteArray)).size + (restext kind l).size ≤ 9223372036854775807 := by
  have h1 := dstr_size hw.1 hw.2
  have h2 := optext_size (a := a) hb hc
  have h3 := restext_size kind l hi
  have e1 : (⟨#[32]⟩ : ByteArray).size = 1 := rfl
  have e2 : (⟨#[58, 32]⟩ : ByteArray).size = 2 := rfl
  simp only [ByteArray.size_append, e1, e2]
  omega
theorem ctext_size {w a b c at_ kind : Int} {l : List Int} (hw : i64in w) (hb : i64in b) (hc : i64in c) (hl : l.length ≤ 1048576) (hi : i64s l) : (ctext w a b c at_ kind l).size ≤ 25000000 := by
  have h1 := dstr_size hw.1 hw.2
  have h2 := optext_size (a := a) hb hc
  have h3 := restext_size kind l hi
  have e1 : (⟨#[32]⟩ : ByteArray).size = 1 := rfl
  have e2 : (⟨#[58, 32]⟩ : ByteArray).size = 2 := rfl
  have e3 : (⟨#[111, 112, 101, 110]⟩ : ByteArray).size = 4 := rfl
  unfold ctext
  split <;> simp only [ByteArray.size_append, e1, e2, e3] <;> omega
theorem spec_CallText_ev (w a b c e1 e2 at_ kind : Int) (l : List Int) (hw : i64in w) (hb : i64in b) (hc : i64in c) (hl : l.length ≤ 1048576) (hi : i64s l) : Ev (fun k => spec_CallText.f k w a b c e1 e2 at_ kind l) (ctext w a b c at_ kind l) := by
  obtain ⟨b1, b2, b3, b4, b5⟩ := ctext_bounds (w := w) (a := a) (kind := kind) hw hb hc hl hi
  simp only [spec_CallText.f, ctext]
  refine Ev.bind (spec_Digits_ev _ hw.1 hw.2) ?_
  simp only [b1, if_true]
  refine Ev.bind (spec_OpText_ev _ _ _ hb hc) ?_
  simp only [b2, b3, if_true]
  by_cases g : at_ < 0
  · simp only [g, b4, if_true]; exact Ev.now _
  · simp only [g, if_false]
    refine Ev.bind (spec_ResText_ev _ _ hl hi) ?_
    simp only [b5, if_true]
    exact Ev.now _
theorem impl_CallText_ev (w a b c e1 e2 at_ kind : Int) (l : List Int) (hw : i64in w) (hb : i64in b) (hc : i64in c) (hl : l.length ≤ 1048576) (hi : i64s l) : Ev (fun k => impl_CallText.f k w a b c e1 e2 at_ kind l) (ctext w a b c at_ kind l) := by
  obtain ⟨b1, b2, b3, b4, b5⟩ := ctext_bounds (w := w) (a := a) (kind := kind) hw hb hc hl hi
  simp only [impl_CallText.f, ctext]
  refine Ev.bind (impl_Digits_ev _ hw.1 hw.2) ?_
  simp only [b1, if_true]
  refine Ev.bind (impl_OpText_ev _ _ _ hb hc) ?_
  simp only [b2, b3, if_true]
  by_cases g : at_ < 0
  · simp only [g, b4, if_true]; exact Ev.now _
  · simp only [g, if_false]
    refine Ev.bind (impl_ResText_ev _ _ hl hi) ?_
    simp only [b5, if_true]
    exact Ev.now _
end Go.Proofs.YtmljebgideecjaaGreat.P
end
section
set_option linter.unusedSimpArgs false
set_option linter.unusedVariables false
namespace Go.Proofs.YtmljebgideecjaaGreat.P
open Go.RowKit Go.Proofs.YtmljebgideecjaaGreatW.PrintWords Go.Proofs.YtmljebgideecjaaGreatW.PrintLast Go.Proofs.YtmljebgideecjaaGreatZ
def okCall (x : iCall) : Prop := i64in x.f0 ∧ i64in x.f1.f1 ∧ i64in x.f1.f2 ∧ x.f5.f1.length ≤ 1048576 ∧ i64s x.f5.f1
def cz (x : iCall) : ByteArray := ctext x.f0 x.f1.f0 x.f1.f1 x.f1.f2 x.f4 x.f5.f0 x.f5.f1
theorem calls_both (w : List mW) (d : List mD) (t : List iThread) (n : Int) (c : List iCall) (p q : List Int) (s : Int) (hc : c.length ≤ 1048576) (oc : ∀ x ∈ c, okCall x) : ∀ (m i : Nat) (z : ByteArray), i + m = c.length → z.size ≤ 1000 + 30000000 * i →
    ∃ r : ByteArray, Ev (fun k => spec_MachineText.l0 k z (i : Int) w d t n c p q s) r ∧ Ev (fun k => impl_MachineText.l0 k z c (c.length : Int) (i : Int)) r := by
  intro m
  induction m with
  | zero =>
    intro i z hi hz
    have e : ¬ ((i : Int) < (c.length : Int)) := by omega
    refine ⟨z, Ev.shift ?_, Ev.shift ?_⟩
    · simp only [spec_MachineText.l0, e, if_false]; exact Ev.now _
    · simp only [impl_MachineText.l0, e, if_false]; exact Ev.now _
  | succ m ih =>
    intro i z hi hz
    have hil : i < c.length := by omega
    have e0 : (0 : Int) ≤ (i : Int) := by omega
    have e1 : (i : Int) < (c.length : Int) := by omega
    have er : rd_T73 c (i : Int) = c[i] := getD_get (List.getElem?_eq_getElem hil)
    obtain ⟨o1, o2, o3, o4, o5⟩ := oc _ (List.getElem_mem hil)
    have hs : (cz c[i]).size ≤ 25000000 := ctext_size o1 o2 o3 o4 o5
    have en : (⟨#[10]⟩ : ByteArray).size = 1 := rfl
    have b1 : z.size + (cz c[i]).size ≤ 9223372036854775807 := by omega
    have b2 : (z ++ cz c[i]).size + 1 ≤ 9223372036854775807 := by rw [ByteArray.size_append]; omega
    have b3 : (cz c[i]).size + 1 ≤ 9223372036854775807 := by omega
    have b4 : z.size + (cz c[i] ++ (⟨#[10]⟩ : ByteArray)).size ≤ 9223372036854775807 := by rw [ByteArray.size_append, en]; omega
    obtain ⟨r, h1, h2⟩ := ih (i + 1) (z ++ cz c[i] ++ ⟨#[10]⟩) (by omega) (by rw [ByteArray.size_append, ByteArray.size_append, en]; omega)
    refine ⟨r, Ev.shift ?_, Ev.shift ?_⟩
    · simp only [spec_MachineText.l0, e0, e1, if_true, er, succ64 hil (by omega)]
      refine Ev.bind (spec_CallText_ev c[i].f0 c[i].f1.f0 c[i].f1.f1 c[i].f1.f2 c[i].f2 c[i].f3 c[i].f4 c[i].f5.f0 c[i].f5.f1 o1 o2 o3 o4 o5) ?_
      refine Ev.pos b1 (Ev.pos b2 ?_)
      exact h1
    · simp only [impl_MachineText.l0, e0, e1, if_true, er, succ64 hil (by omega)]
      refine Ev.bind (impl_CallText_ev c[i].f0 c[i].f1.f0 c[i].f1.f1 c[i].f1.f2 c[i].f2 c[i].f3 c[i].f4 c[i].f5.f0 c[i].f5.f1 o1 o2 o3 o4 o5) ?_
      refine Ev.pos b3 (Ev.pos b4 ?_)
      have ea : z ++ (cz c[i] ++ (⟨#[10]⟩ : ByteArray)) = z ++ cz c[i] ++ ⟨#[10]⟩ := ByteArray.append_assoc.symm
      show Ev (fun k => impl_MachineText.l0 k (z ++ (cz c[i] ++ (⟨#[10]⟩ : ByteArray))) c (c.length : Int) ((i + 1 : Nat) : Int)) r
      rw [ea]
      exact h2
theorem pureFnExactMachineText : PureFnExactMachineText := by
  intro x hx
  obtain ⟨⟨⟨w1, w2⟩, ⟨d1, d2⟩⟩, ⟨t1, t2⟩, _, ⟨c1, c2⟩, ⟨p1, p2⟩, ⟨⟨q1, q2⟩, _⟩⟩ := hx
  refine Ev.rounds ?_
  have hd : wfDs x.f0.f1 := ⟨d1, fun y hy => ⟨(d2 y hy).2.2.1.1, (d2 y hy).2.2.2.2.1⟩⟩
  have ht : wfTs x.f1 := ⟨t1, fun y hy => ⟨(t2 y hy).1.1, (t2 y hy).2.2.2.1.1, (t2 y hy).2.2.2.2.1⟩⟩
  have hc : wfCs x.f3 := ⟨c1, fun y hy => (c2 y hy).2.2.2.2.2.2.1⟩
  simp only [laws_FnExactMachineText.f]
  refine Ev.bind (szMachine_ev x.f0.f0 x.f0.f1 x.f1 x.f2 x.f3 x.f4 x.f5.f0 x.f5.f1 1048576 (by decide) (by decide) w1 hd ht hc p1 q1) ?_
  by_cases h : wtMem x.f0.f0 x.f0.f1 + wtTail x.f1 x.f3 x.f4 x.f5.f0 ≤ 1048576
  · have n1 := ctl_nonneg wtDesc_nn x.f0.f1
    have n2 := ctl_nonneg wtThread_nn x.f1
    have n3 := ctl_nonneg wtCall_nn x.f3
    have hW := h
    unfold wtMem wtTail at hW
    have hto := toMachine_ev x.f0.f0 x.f0.f1 x.f1 x.f2 x.f3 x.f4 x.f5.f0 x.f5.f1 h
    have heq := eqMachine_ev x.f0.f0 x.f0.f1 x.f1 x.f2 x.f3 x.f4 x.f5.f0 x.f5.f1 h
    have ow : okWs (x.f0.f0.map cWord) := fun y hy => by
      obtain ⟨a, ha, rfl⟩ := List.mem_map.mp hy
      exact i64_wf (w2 a ha).1
    have od : okDs (x.f0.f1.map cDesc) := fun y hy => by
      obtain ⟨a, ha, rfl⟩ := List.mem_map.mp hy
      have hm := Int.le_trans (ctl_mem wtDesc_nn ha) (show ctl wtDesc x.f0.f1 ≤ 1048576 by omega)
      refine ⟨(smDesc_of a hm).1, fun e he => ?_⟩
      obtain ⟨b, hb, rfl⟩ := List.mem_map.mp he
      have hw := (d2 a ha).2.2.1.2 b hb
      exact ⟨i64_wf hw.2.1, i64_wf hw.2.2⟩
    have oc : ∀ y ∈ x.f3.map cCall, okCall y := fun y hy => by
      obtain ⟨a, ha, rfl⟩ := List.mem_map.mp hy
      have hm := Int.le_trans (ctl_mem wtCall_nn ha) (show ctl wtCall x.f3 ≤ 1048576 by omega)
      have hw := c2 a ha
      exact ⟨i64_wf hw.1, i64_wf hw.2.1.2.1, i64_wf hw.2.1.2.2, smCall_of a hm, fun v hv => i64_wf (hw.2.2.2.2.2.2.2 v hv)⟩
    obtain ⟨m, m1, m2, m3, m4⟩ := meaning_both (x.f0.f0.map cWord) (x.f0.f1.map cDesc) (by rw [List.length_map]; omega) (by rw [List.length_map]; omega) ow od
    have hrin : (rin m).1.length ≤ 4 ∧ i64s (rin m).1 ∧ i64in (rin m).2 := by
      unfold rin
      split
      · rename_i h20
        refine ⟨by rw [List.length_take]; omega, fun v hv => m2 v (List.mem_of_mem_take hv), ?_⟩
        have h13 : 13 < m.length := by omega
        have e : rd m 13 = m[13] := rd_get (List.getElem?_eq_getElem h13)
        show i64in (rd m 13)
        rw [e]
        exact m2 _ (List.getElem_mem h13)
      · exact ⟨Nat.zero_le _, fun v hv => (by cases hv), (by unfold i64in; show _ ≤ (0 : Int) ∧ (0 : Int) < _; omega)⟩
    obtain ⟨r1, r2, r3⟩ := hrin
    have sz1 : (rtext (rin m).1 (rin m).2).size ≤ 200 := by
      have a1 := ntext_size (rin m).1 r2
      have a2 := dstr_size r3.1 r3.2
      have en : (⟨#[47]⟩ : ByteArray).size = 1 := rfl
      unfold rtext
      rw [ByteArray.size_append, ByteArray.size_append, en]
      omega
    have en : (⟨#[10]⟩ : ByteArray).size = 1 := rfl
    obtain ⟨r, g1, g2⟩ := calls_both (x.f0.f0.map cWord) (x.f0.f1.map cDesc) (x.f1.map cThread) x.f2 (x.f3.map cCall) x.f4 x.f5.f0 x.f5.f1 (by rw [List.length_map]; omega) oc (x.f3.map cCall).length 0 (rtext (rin m).1 (rin m).2 ++ ⟨#[10]⟩) (by omega) (by rw [ByteArray.size_append, en]; omega)
    have b1 : (rtext (rin m).1 (rin m).2).size + 1 ≤ 9223372036854775807 := by omega
    have hs : Ev (fun k => spec_MachineText.f k (x.f0.f0.map cWord) (x.f0.f1.map cDesc) (x.f1.map cThread) x.f2 (x.f3.map cCall) x.f4 x.f5.f0 x.f5.f1) r := by
      simp only [spec_MachineText.f, spec_RowsIn_eq]
      refine Ev.bind m3 (Ev.bind (Ev.now _) (Ev.bind (spec_RowsText_ev _ _ (by omega) r2 r3.1 r3.2) ?_))
      exact Ev.pos b1 g1
    have hi : Ev (fun k => impl_MachineText.f k (x.f0.f0.map cWord) (x.f0.f1.map cDesc) (x.f1.map cThread) x.f2 (x.f3.map cCall) x.f4 x.f5.f0 x.f5.f1) r := by
      simp only [impl_MachineText.f, impl_RowsIn_eq]
      refine Ev.bind m4 (Ev.bind (Ev.now _) (Ev.bind (impl_RowsText_ev _ _ (by omega) r2 r3.1 r3.2) ?_))
      exact Ev.pos b1 g2
    rw [lf_pos h]
    refine Ev.neg (by omega) ?_
    refine Ev.bind hto (Ev.bind hs (Ev.bind hto (Ev.bind hi ?_)))
    refine Ev.pos rfl (Ev.bind hto (Ev.bind heq ?_))
    exact Ev.pos rfl (Ev.now _)
  · rw [lf_neg h]
    exact Ev.pos (by decide) (Ev.now _)
end Go.Proofs.YtmljebgideecjaaGreat.P
end
namespace Go.Proofs.YtmljebgideecjaaGreat.fnExactMachineText
open Go.ChangeShapes Go.WideShapes Go.ChangeAt Go.RowKit Go.Proofs.YtmljebgideecjaaGreatW.PrintWords Go.Proofs.YtmljebgideecjaaGreatW.PrintLast Go.Proofs.YtmljebgideecjaaGreatZ Go.Proofs.YtmljebgideecjaaGreat.P
open Go.ChangeMaps (open_string shut_string)
set_option linter.unusedVariables false
theorem own : ownKnob Tryz.prog.godebug = none := by kernel_rfl
theorem laidOut : laidOutB Tryz.prog = true := by kernel_rfl
set_option maxRecDepth 100000 in
theorem lifted (os : Os) (started : os.Started) (H : Type) (enc : TypeId × Value → H) :
    ReturnsInHanded {} Tryz.checked os 4 .any (Rows.fnExactMachineTextSpec.pre6 enc Tryz.prog Tryz.f4 Rows.fnExactMachineTextRow.domain false) (Rows.fnExactMachineTextSpec.post enc Tryz.prog Tryz.f4 false true false false) := by
  refine returnsInHanded_of_change_sized (C := Tryz.checked) own started (by kernel_rfl) Tryz.func4
    (ChangeSpec.witness6 (enc := enc) (C := Tryz.checked) false ⟨#[], #[.agg #[.slice none 0 0, .slice none 0 0, .slice none 0 0, .int .i64 0, .slice none 0 0, .slice none 0 0, .slice none 0 0, .int .i64 0]], []⟩ 8 (by kernel_rfl) (by kernel_rfl) (by kernel_rfl) (by kernel_rfl)) ?_
  intro W base args ds gs before hval0 hW hcnd hsz0 _
  have hval : ∀ (j : Nat) t v, Tryz.f4.params[j]? = some t → args[j]? = some v → Value.okWide Tryz.prog W .any base t v := hval0
  have hW' := hW
  obtain ⟨p, q, hA0, hV, rfl, hfz, hnd⟩ := hW
  have hA : DataW.TrodAll enc Tryz.prog W 0 (fun _ => true) true Tryz.f4.params.toList args.toList ds p := hA0
  rw [Tryz.params4] at hA hval
  obtain ⟨v0, vs0, d0, ds0, p0, q0, hargs, rfl, rfl, h0, r0⟩ := trodAll_cons hA
  obtain ⟨rfl, rfl, rfl⟩ := trodAll_nil r0
  obtain rfl : args = #[v0] := by cases args; simp_all
  obtain ⟨rfl, rfl⟩ := trodVars_none hV
  have k0_ := h0
  have lt0 : ∀ x ∈ p0, x.block < W.heap.size := by obtain ⟨m, hm⟩ := k0_; exact DataW.trod_lt m _ _ _ hm
  obtain ⟨cs0, rfl⟩ := okWide_agg Tryz.underlying32 (hval 0 32 v0 rfl rfl)
  obtain ⟨x0, K0, wf0_⟩ := Opens.param op32 h0
  replace K0 : k32.K W x0 cs0.toList := K0
  obtain ⟨A0_0, c0_0, A0_1, c0_1, A0_2, c0_2, A0_4, c0_4, A0_5, c0_5, A0_6, c0_6, e0, l0_0, g0_0, l0_1, g0_1, l0_2, g0_2, l0_4, g0_4, l0_5, g0_5, l0_6, g0_6⟩ := k32_open K0
  obtain rfl := Array.ext' (ys := ⟨_⟩) e0
  obtain ⟨k, hk⟩ := pureFnExactMachineText x0 wf0_
  clear hA0 hval0 hsz0
  refine (laws_FnExactMachineText.calls k _ _ x0.f0.f0 _ _ x0.f0.f1 _ _ x0.f1 x0.f2 _ _ x0.f3 _ _ x0.f4 _ _ x0.f5.f0 x0.f5.f1 true W g0_0 l0_0 g0_1 l0_1 g0_2 l0_2 g0_4 l0_4 g0_5 l0_5 g0_6 l0_6 hk).mono fun e W' hh => ?_
  obtain ⟨he, bel0⟩ := hh
  have bel : Below W.heap.size W W' := bel0
  subst he
  exact ⟨_, rfl, _, _, _, [], _, [], hW', trodAll_mk1 (shut_bool Tryz.underlying4 _), (trodAll_cons_mk (Below.trod laidOut (by kernel_rfl) (of_decide_eq_true (by kernel_rfl)) k0_ bel lt0) trodAll_mk0), rfl, bel.frame _, fun h => by cases h⟩
theorem over : Rows.fnExactMachineTextRow.holds Tryz.pinned (OpenSpec.ofChange Rows.fnExactMachineTextSpec) :=
  OpenClaim.holds_of_wide 4 Tryz.f4 rfl rfl rfl rfl rfl rfl rfl ⟨rfl, rfl, rfl, rfl, rfl⟩ rfl rfl rfl rfl rfl (by kernel_rfl) Tryz.func4 (by kernel_rfl)
    (of_decide_eq_true (by kernel_rfl)) (by unfold Func.isWrapper; first | (rw [if_pos (by decide +kernel)]; kernel_rfl) | (rw [if_neg (by decide +kernel)]; exact ⟨rfl, rfl⟩))
    (fun os started H enc _ => lifted os started H enc)
theorem proved : Rows.FnExactMachineTextSaid := over
#print axioms proved
end Go.Proofs.YtmljebgideecjaaGreat.fnExactMachineText
namespace Go.Proofs.YtmljebgideecjaaGreat
theorem fnExactMachineText_holds : Rows.FnExactMachineTextSaid := fnExactMachineText.proved
end Go.Proofs.YtmljebgideecjaaGreat
