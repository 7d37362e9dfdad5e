/- A part of the proof of the law FnExactJudgeSo: texts of this seat, merged (words, printed functions of the program, plain lemmas). Conditions: none of its own. -/
import Derived.Test.YtmljebgideecjaaGreatChecked
import Derived.Laws.CopyOwn
import Derived.OpenShut
import Derived.Test.YtmljebgideecjaaGreatP2kFnExactJudgeSo1
import Derived.Test.YtmljebgideecjaaGreatP2kFnExactJudgeSo2
import Derived.Test.YtmljebgideecjaaGreatP2kFnExactJudgeSo3
import Derived.Test.YtmljebgideecjaaGreatP2kFnExactJudgeSo4
import Derived.Test.YtmljebgideecjaaGreatP2kFnExactJudgeSo5
import Derived.Test.YtmljebgideecjaaGreatP2kFnExactJudgeSo6
import Derived.Test.YtmljebgideecjaaGreatP2kFnExactJudgeSo7
import Derived.Test.YtmljebgideecjaaGreatP2kFnExactJudgeSo8
import Derived.Test.YtmljebgideecjaaGreatP2kFnExactJudgeSo9
import Derived.Test.YtmljebgideecjaaGreatP2kFnExactJudgeSo10
import Derived.Test.YtmljebgideecjaaGreatP2kFnExactJudgeSo11
import Derived.Test.YtmljebgideecjaaGreatP2kFnExactJudgeSo12
import Derived.Test.YtmljebgideecjaaGreatP2kFnExactJudgeSo13
import Derived.Test.YtmljebgideecjaaGreatP2kFnExactJudgeSo14
import Derived.Test.YtmljebgideecjaaGreatP2kFnExactJudgeSo16
import Derived.Test.YtmljebgideecjaaGreatP2kFnExactJudgeSo17
import Derived.Test.YtmljebgideecjaaGreatP2kFnExactJudgeSo19
import Derived.Test.YtmljebgideecjaaGreatP2kFnExactJudgeSo20
import Derived.Test.YtmljebgideecjaaGreatP2kFnExactJudgeSo21
import Derived.Test.YtmljebgideecjaaGreatP2kFnExactJudgeSo24
import Derived.Test.YtmljebgideecjaaGreatP2kFnExactJudgeSo25
import Derived.Test.YtmljebgideecjaaGreatP2kFnExactJudgeSo26
import Derived.Test.YtmljebgideecjaaGreatP2kFnExactJudgeSo27
set_option linter.unusedSimpArgs false
set_option linter.unusedVariables false
set_option maxHeartbeats 8000000
set_option maxRecDepth 100000
namespace Go.Proofs.YtmljebgideecjaaGreat.P2
open Go.RowKit Go.Proofs.YtmljebgideecjaaGreatW.PrintWords Go.Proofs.YtmljebgideecjaaGreatW.PrintLast Go.Proofs.YtmljebgideecjaaGreatZ
def wf176 (x : S176) : Prop := (Lit.int .i64 x.f0).wf = true ∧ (Lit.int .i64 x.f1).wf = true ∧ (Lit.int .i64 x.f2).wf = true
theorem op176 : Opens Tryz.prog 176 k176 wf176 := Opens.struct (fun x : S176 => (x.f0, x.f1, x.f2)) (fun a => ⟨a.1, a.2.1, a.2.2⟩) (fun _ => rfl) Tryz.underlying176 (by kernel_rfl) (OpensF.cons 0 _ rfl rfl (by kernel_rfl) (Opens.int Tryz.underlying3) (OpensF.cons 1 _ rfl rfl (by kernel_rfl) (Opens.int Tryz.underlying3) (OpensF.last 2 _ rfl rfl (by kernel_rfl) (Opens.int Tryz.underlying3))))
def wf224 (x : S224) : Prop := (Lit.int .i64 x.f0).wf = true ∧ (Lit.int .i64 x.f1).wf = true ∧ (Lit.int .i64 x.f2).wf = true
theorem op224 : Opens Tryz.prog 224 k224 wf224 := Opens.struct (fun x : S224 => (x.f0, x.f1, x.f2)) (fun a => ⟨a.1, a.2.1, a.2.2⟩) (fun _ => rfl) Tryz.underlying224 (by kernel_rfl) (OpensF.cons 0 _ rfl rfl (by kernel_rfl) (Opens.int Tryz.underlying3) (OpensF.cons 1 _ rfl rfl (by kernel_rfl) (Opens.int Tryz.underlying3) (OpensF.last 2 _ rfl rfl (by kernel_rfl) (Opens.int Tryz.underlying3))))
def wf117 (x : S117) : Prop := (Lit.int .i64 x.f0).wf = true ∧ (x.f1.length ≤ 9223372036854775807 ∧ ∀ y ∈ x.f1, (Lit.int .i64 y).wf = true)
theorem op117 : Opens Tryz.prog 117 k117 wf117 := Opens.struct (fun x : S117 => (x.f0, x.f1)) (fun a => ⟨a.1, a.2⟩) (fun _ => rfl) Tryz.underlying117 (by kernel_rfl) (OpensF.cons 0 _ rfl rfl (by kernel_rfl) (Opens.int Tryz.underlying3) (OpensF.last 1 _ rfl rfl (by kernel_rfl) (Opens.slice 3 Tryz.underlying28 (by kernel_rfl) (Opens.int Tryz.underlying3))))
def wf155 (x : S155) : Prop := (Lit.int .i64 x.f0).wf = true ∧ (Lit.int .i64 x.f1).wf = true ∧ (x.f2.length ≤ 9223372036854775807 ∧ ∀ y ∈ x.f2, wf224 y) ∧ wf117 x.f3
theorem op155 : Opens Tryz.prog 155 k155 wf155 := Opens.struct (fun x : S155 => (x.f0, x.f1, x.f2, x.f3)) (fun a => ⟨a.1, a.2.1, a.2.2.1, a.2.2.2⟩) (fun _ => rfl) Tryz.underlying155 (by kernel_rfl) (OpensF.cons 0 _ rfl rfl (by kernel_rfl) (Opens.int Tryz.underlying3) (OpensF.cons 1 _ rfl rfl (by kernel_rfl) (Opens.int Tryz.underlying3) (OpensF.cons 2 _ rfl rfl (by kernel_rfl) (Opens.slice 224 Tryz.underlying153 (by kernel_rfl) (op224)) (OpensF.last 3 _ rfl rfl (by kernel_rfl) (op117)))))
def wf25 (x : S25) : Prop := (x.f0.length ≤ 9223372036854775807 ∧ ∀ y ∈ x.f0, wf176 y) ∧ (x.f1.length ≤ 9223372036854775807 ∧ ∀ y ∈ x.f1, wf155 y)
theorem op25 : Opens Tryz.prog 25 k25 wf25 := Opens.struct (fun x : S25 => (x.f0, x.f1)) (fun a => ⟨a.1, a.2⟩) (fun _ => rfl) Tryz.underlying25 (by kernel_rfl) (OpensF.cons 0 _ rfl rfl (by kernel_rfl) (Opens.slice 176 Tryz.underlying22 (by kernel_rfl) (op176)) (OpensF.last 1 _ rfl rfl (by kernel_rfl) (Opens.slice 155 Tryz.underlying23 (by kernel_rfl) (op155))))
def wf116 (x : S116) : Prop := (Lit.int .i64 x.f0).wf = true ∧ (Lit.int .i64 x.f1).wf = true ∧ (Lit.int .i64 x.f2).wf = true
theorem op116 : Opens Tryz.prog 116 k116 wf116 := Opens.struct (fun x : S116 => (x.f0, x.f1, x.f2)) (fun a => ⟨a.1, a.2.1, a.2.2⟩) (fun _ => rfl) Tryz.underlying116 (by kernel_rfl) (OpensF.cons 0 _ rfl rfl (by kernel_rfl) (Opens.int Tryz.underlying3) (OpensF.cons 1 _ rfl rfl (by kernel_rfl) (Opens.int Tryz.underlying3) (OpensF.last 2 _ rfl rfl (by kernel_rfl) (Opens.int Tryz.underlying3))))
def wf204 (x : S204) : Prop := (Lit.int .i64 x.f0).wf = true ∧ (Lit.int .i64 x.f1).wf = true
theorem op204 : Opens Tryz.prog 204 k204 wf204 := Opens.struct (fun x : S204 => (x.f0, x.f1)) (fun a => ⟨a.1, a.2⟩) (fun _ => rfl) Tryz.underlying204 (by kernel_rfl) (OpensF.cons 0 _ rfl rfl (by kernel_rfl) (Opens.int Tryz.underlying3) (OpensF.last 1 _ rfl rfl (by kernel_rfl) (Opens.int Tryz.underlying3)))
def wf206 (x : S206) : Prop := (Lit.int .i64 x.f0).wf = true ∧ (Lit.int .i64 x.f1).wf = true ∧ (Lit.int .i64 x.f2).wf = true ∧ (Lit.int .i64 x.f3).wf = true
theorem op206 : Opens Tryz.prog 206 k206 wf206 := Opens.struct (fun x : S206 => (x.f0, x.f1, x.f2, x.f3)) (fun a => ⟨a.1, a.2.1, a.2.2.1, a.2.2.2⟩) (fun _ => rfl) Tryz.underlying206 (by kernel_rfl) (OpensF.cons 0 _ rfl rfl (by kernel_rfl) (Opens.int Tryz.underlying3) (OpensF.cons 1 _ rfl rfl (by kernel_rfl) (Opens.int Tryz.underlying3) (OpensF.cons 2 _ rfl rfl (by kernel_rfl) (Opens.int Tryz.underlying3) (OpensF.last 3 _ rfl rfl (by kernel_rfl) (Opens.int Tryz.underlying3)))))
def wf114 (x : S114) : Prop := (x.f0.length ≤ 9223372036854775807 ∧ ∀ y ∈ x.f0, wf116 y) ∧ (Lit.int .i64 x.f1).wf = true ∧ True ∧ (x.f3.length ≤ 9223372036854775807 ∧ ∀ y ∈ x.f3, wf204 y) ∧ (x.f4.length ≤ 9223372036854775807 ∧ ∀ y ∈ x.f4, wf206 y)
theorem op114 : Opens Tryz.prog 114 k114 wf114 := Opens.struct (fun x : S114 => (x.f0, x.f1, x.f2, x.f3, x.f4)) (fun a => ⟨a.1, a.2.1, a.2.2.1, a.2.2.2.1, a.2.2.2.2⟩) (fun _ => rfl) Tryz.underlying114 (by kernel_rfl) (OpensF.cons 0 _ rfl rfl (by kernel_rfl) (Opens.slice 116 Tryz.underlying89 (by kernel_rfl) (op116)) (OpensF.cons 1 _ rfl rfl (by kernel_rfl) (Opens.int Tryz.underlying3) (OpensF.cons 2 _ rfl rfl (by kernel_rfl) (Opens.bool Tryz.underlying4) (OpensF.cons 3 _ rfl rfl (by kernel_rfl) (Opens.slice 204 Tryz.underlying111 (by kernel_rfl) (op204)) (OpensF.last 4 _ rfl rfl (by kernel_rfl) (Opens.slice 206 Tryz.underlying112 (by kernel_rfl) (op206)))))))
def wf119 (x : S119) : Prop := (Lit.int .i64 x.f0).wf = true ∧ wf116 x.f1 ∧ (Lit.int .i64 x.f2).wf = true ∧ (Lit.int .i64 x.f3).wf = true ∧ (Lit.int .i64 x.f4).wf = true ∧ wf117 x.f5
theorem op119 : Opens Tryz.prog 119 k119 wf119 := Opens.struct (fun x : S119 => (x.f0, x.f1, x.f2, x.f3, x.f4, x.f5)) (fun a => ⟨a.1, a.2.1, a.2.2.1, a.2.2.2.1, a.2.2.2.2.1, a.2.2.2.2.2⟩) (fun _ => rfl) Tryz.underlying119 (by kernel_rfl) (OpensF.cons 0 _ rfl rfl (by kernel_rfl) (Opens.int Tryz.underlying3) (OpensF.cons 1 _ rfl rfl (by kernel_rfl) (op116) (OpensF.cons 2 _ rfl rfl (by kernel_rfl) (Opens.int Tryz.underlying3) (OpensF.cons 3 _ rfl rfl (by kernel_rfl) (Opens.int Tryz.underlying3) (OpensF.cons 4 _ rfl rfl (by kernel_rfl) (Opens.int Tryz.underlying3) (OpensF.last 5 _ rfl rfl (by kernel_rfl) (op117)))))))
def wf30 (x : S30) : Prop := (x.f0.length ≤ 9223372036854775807 ∧ ∀ y ∈ x.f0, (Lit.int .i64 y).wf = true) ∧ (Lit.int .i64 x.f1).wf = true
theorem op30 : Opens Tryz.prog 30 k30 wf30 := Opens.struct (fun x : S30 => (x.f0, x.f1)) (fun a => ⟨a.1, a.2⟩) (fun _ => rfl) Tryz.underlying30 (by kernel_rfl) (OpensF.cons 0 _ rfl rfl (by kernel_rfl) (Opens.slice 3 Tryz.underlying28 (by kernel_rfl) (Opens.int Tryz.underlying3)) (OpensF.last 1 _ rfl rfl (by kernel_rfl) (Opens.int Tryz.underlying3)))
def wf32 (x : S32) : Prop := wf25 x.f0 ∧ (x.f1.length ≤ 9223372036854775807 ∧ ∀ y ∈ x.f1, wf114 y) ∧ (Lit.int .i64 x.f2).wf = true ∧ (x.f3.length ≤ 9223372036854775807 ∧ ∀ y ∈ x.f3, wf119 y) ∧ (x.f4.length ≤ 9223372036854775807 ∧ ∀ y ∈ x.f4, (Lit.int .i64 y).wf = true) ∧ wf30 x.f5
theorem op32 : Opens Tryz.prog 32 k32 wf32 := Opens.struct (fun x : S32 => (x.f0, x.f1, x.f2, x.f3, x.f4, x.f5)) (fun a => ⟨a.1, a.2.1, a.2.2.1, a.2.2.2.1, a.2.2.2.2.1, a.2.2.2.2.2⟩) (fun _ => rfl) Tryz.underlying32 (by kernel_rfl) (OpensF.cons 0 _ rfl rfl (by kernel_rfl) (op25) (OpensF.cons 1 _ rfl rfl (by kernel_rfl) (Opens.slice 114 Tryz.underlying26 (by kernel_rfl) (op114)) (OpensF.cons 2 _ rfl rfl (by kernel_rfl) (Opens.int Tryz.underlying3) (OpensF.cons 3 _ rfl rfl (by kernel_rfl) (Opens.slice 119 Tryz.underlying27 (by kernel_rfl) (op119)) (OpensF.cons 4 _ rfl rfl (by kernel_rfl) (Opens.slice 3 Tryz.underlying28 (by kernel_rfl) (Opens.int Tryz.underlying3)) (OpensF.last 5 _ rfl rfl (by kernel_rfl) (op30)))))))
def PureFnExactJudgeSo : Prop := ∀ (x0 : S32), wf32 x0 → ∃ k, laws_FnExactJudgeSo.f k x0.f0.f0 x0.f0.f1 x0.f1 x0.f2 x0.f3 x0.f4 x0.f5.f0 x0.f5.f1 = some true
end Go.Proofs.YtmljebgideecjaaGreat.P2
namespace Go.Proofs.YtmljebgideecjaaGreat.P2
open Go.Proofs.YtmljebgideecjaaGreatZ Go.RowKit Go.Proofs.YtmljebgideecjaaGreatW.PrintWords Go.Proofs.YtmljebgideecjaaGreatW.PrintLast Go.Proofs.YtmljebgideecjaaGreatW.PrintMore
attribute [local go_sem] max2_int min2_int max_two min_two max_three min_three max_four min_four   -- for this text's walks alone






def spec_StateAt.f  : Option (Int) := some 13

def spec_OwnerAt.f (a0 : Int) : Option (Int) := (spec_ValOk.f a0).bind fun t101 => (if t101 = true then (some (wrap64 (3 + a0))) else (some (-1)))
def spec_ViaAt.f (a0 : Int) : Option (Int) := (spec_ValOk.f a0).bind fun t101 => (if t101 = true then ((spec_StateAt.f).bind fun t102 => (some (wrap64 (t102 + a0)))) else (some (-1)))






def impl_StateAt.f  : Option (Int) := some 13
def impl_placed.f (a0 : Bool) (a1 : Int) : Option (Int) := if a0 = true then (some a1) else (some (-1))
def impl_OwnerAt.f (a0 : Int) : Option (Int) := (impl_ValOk.f a0).bind fun t101 => ((impl_placed.f t101 (wrap64 (3 + a0))).bind fun t102 => (some t102))

def impl_ViaAt.f (a0 : Int) : Option (Int) := (impl_ValOk.f a0).bind fun t101 => ((impl_StateAt.f).bind fun t102 => ((impl_placed.f t101 (wrap64 (t102 + a0))).bind fun t103 => (some t103)))
end Go.Proofs.YtmljebgideecjaaGreat.P2
namespace Go.Proofs.YtmljebgideecjaaGreatZ
open Go.RowKit Go.Proofs.YtmljebgideecjaaGreatW.PrintWords Go.Proofs.YtmljebgideecjaaGreatW.PrintLast
def CopyRuns (P : Program) (d s : Value) (elem : TypeId) (w : World) (K : Ending → World → Prop) : Prop :=
  ∀ (ops : Array Oper) (rest : List Oper) (o : Oper) (a : Act) (Q : Exit → Act → World → Prop) (x y : Operand) (dT sT : TypeId), o.guard = none → o.op = .call { callee := .builtin .copy, args := #[x, y], argTypes := #[dT, sT] } →
    P.underlying dT = some (.slice elem) → (P.info? elem).map (·.size) = some 1 → a.eval x = d → a.eval y = s → (∀ v w', K (.returned v) w' → wpList P ops Q rest (a.put o.dst v) w') → wpList P ops Q (o :: rest) a w
theorem CopyRuns.mono {P : Program} {d s : Value} {elem : TypeId} {w : World} {K K' : Ending → World → Prop} (h : CopyRuns P d s elem w K) (hm : ∀ e w', K e w' → K' e w') : CopyRuns P d s elem w K' :=
  fun ops rest o a Q x y dT sT h1 h2 h3 h4 h5 h6 h7 => h ops rest o a Q x y dT sT h1 h2 h3 h4 h5 h6 (fun v w' hk => h7 v w' (hm _ _ hk))
def copy_int.f (l0 l1 : List Int) : Option (Int × List Int) := some (((Nat.min l1.length l0.length : Nat) : Int), l1.take (Nat.min l1.length l0.length) ++ l0.drop (Nat.min l1.length l0.length))
theorem copy_int.calls {P : Program} (P0_ : Nat → Prop) (u9000_ : Value) (l0 : List Int) (A1 : Option Addr) (c1 : Nat) (l1 : List Int) (r1 : Int) (r2 : List Int) (w0 w : World) (hB : Below w0.heap.size w0 w) (ho0 : Kd.R (Kd.int .i64) 3 w w0.heap.size P0_ u9000_ l0)
    (hr1 : ∀ W_, Kept w W_ (fun k_ => P0_ k_) → Kd.C (Kd.int .i64) W_ A1 l1.length l1) (_hc1 : l1.length ≤ c1) (h : copy_int.f l0 l1 = some (r1, r2)) :
    CopyRuns P u9000_ (.slice A1 l1.length c1) 3 w fun e w' => e = .returned (.int .i64 r1) ∧ Kd.R (Kd.int .i64) 3 w' w0.heap.size (fun k_ => (P0_ k_ ∨ w.heap.size ≤ k_)) u9000_ r2 ∧ Below w0.heap.size w0 w' ∧ Kept w w' (fun k_ => P0_ k_) := by
  have h' : (((Nat.min l1.length l0.length : Nat) : Int), l1.take (Nat.min l1.length l0.length) ++ l0.drop (Nat.min l1.length l0.length)) = (r1, r2) := Option.some.inj h
  have hr1e : ((Nat.min l1.length l0.length : Nat) : Int) = r1 := congrArg Prod.fst h'
  have hr2e : l1.take (Nat.min l1.length l0.length) ++ l0.drop (Nat.min l1.length l0.length) = r2 := congrArg Prod.snd h'
  intro ops rest o a Q x y dT sT hg hop hu hsz hx hy hK
  have hC := hr1 w (Kept.refl _ _)
  have ho := Kd.own_of_R ho0
  by_cases hm : Nat.min l1.length l0.length = 0
  · have e2 : r2 = l0 := by rw [← hr2e, hm]; simp
    have e1 : r1 = 0 := by rw [← hr1e, hm]; rfl
    obtain ⟨dp, dc, hv⟩ : ∃ dp dc, u9000_ = .slice dp l0.length dc := by
      rcases ho.2 with ⟨hv, hn⟩ | ⟨g, cap, cur, hv, _⟩
      · exact ⟨none, 0, by rw [hv, hn]⟩
      · exact ⟨_, _, hv⟩
    refine wpList_copy_nothing hg x y dT sT hop 3 hu hsz dp A1 l0.length dc l1.length c1 (by rw [hx, hv]) hy hm ?_
    refine hK (goInt 0) w ⟨by rw [e1]; rfl, ?_, hB, Kept.refl _ _⟩
    rw [e2]
    exact Kd.R_mono ho0 (fun k_ hk => .inl hk)
  · have hm1 : 0 < l1.length := by
      apply Classical.byContradiction
      intro hn
      exact hm (by rw [show l1.length = 0 by omega]; simp)
    rcases ho.2 with ⟨hv, hn⟩ | ⟨g, cap, cur, hv, hbase, hgc, hnc, hcap, hcs, htake⟩
    · exact absurd (by rw [hn]; simp) hm
    · obtain ⟨ad, rfl, hc⟩ := hC.2.2 hm1
      have hcell : ∀ (j : Nat) (z : Int), l1[j]? = some z → w.cell? (ad.add j) = some (.int .i64 z) := by
        intro j z hj
        obtain ⟨c, _, hKc, hu_⟩ := hc j z hj
        have hK' : c = [.int .i64 z] := hKc
        have := hu_ 0 (.int .i64 z) (by rw [hK']; rfl)
        simpa [Kd.int, Kd.scalar] using this
      have hml0 : Nat.min l1.length l0.length ≤ l0.length := Nat.min_le_right _ _
      have hml1 : Nat.min l1.length l0.length ≤ l1.length := Nat.min_le_left _ _
      have hcl : ((l1.take (Nat.min l1.length l0.length)).map (Value.int .i64)).length = Nat.min l1.length l0.length := by
        rw [List.length_map, List.length_take]; exact Nat.min_eq_left hml1
      refine wpList_copy_own hg x y dT sT hop 3 hu hsz g 0 l0.length cap ad l1.length c1 (by rw [hx, hv]) hy cur 3 hgc ((l1.take (Nat.min l1.length l0.length)).map (Value.int .i64)) hcl ?_ ?_ ?_ ?_
      · intro j v hj
        rw [List.getElem?_map] at hj
        obtain ⟨z, hz, rfl⟩ := Option.map_eq_some_iff.mp hj
        rw [List.getElem?_take] at hz
        split at hz
        · exact hcell j z hz
        · cases hz
      · rw [hcl]; omega
      · intro v hv
        obtain ⟨z, _, rfl⟩ := List.mem_map.mp hv
        rfl
      · rw [hcl]
        have hr2l : r2.length = l0.length := by
          rw [← hr2e, List.length_append, List.length_take, List.length_drop]
          have := Nat.min_eq_left hml1
          omega
        refine hK (goInt _) _ ⟨by rw [← hr1e]; rfl, ?_, below_setRow hB hbase _, ?_, ?_⟩
        · refine Kd.R_of_own (enc := Value.int .i64) (h1 := fun _ => rfl) ⟨by rw [Nat.mul_one, encs_length], Or.inr ⟨g, cap, _, ?_, hbase, setRow_heap w g cur _ 3 (0, 0) hgc, ?_, hcap, ?_, ?_⟩⟩ ?_
          · rw [hr2l]; exact hv
          · rw [hr2l]; exact hnc
          · simp only [List.size_toArray, List.length_append, List.length_take, List.length_drop, hcl, Array.length_toList]
            omega
          · have htake' : cur.toList.take l0.length = l0.map (Value.int .i64) := by rw [Nat.mul_one] at htake; exact htake
            have e : encs (Value.int .i64) r2 = r2.map (Value.int .i64) := rfl
            rw [hr2l, Nat.mul_one, e, ← hr2e, List.map_append, List.map_drop, ← htake']
            rw [List.take_zero, List.nil_append, Nat.zero_add, List.take_append, hcl, List.drop_take]
            congr 1
            rw [List.take_of_length_le (by rw [hcl]; exact hml0)]
          · intro k hk
            exact Or.inl (ho0.1 k hk)
        · rw [setRow_size]; exact Nat.le_refl _
        · intro i hi hn
          refine setRow_other w g i _ (fun e => hn ?_)
          rw [e]
          exact ho0.1 g (by rw [hv]; rfl)
end Go.Proofs.YtmljebgideecjaaGreatZ
namespace Go.Proofs.YtmljebgideecjaaGreat.P2
open Go.Proofs.YtmljebgideecjaaGreatZ Go.RowKit Go.Proofs.YtmljebgideecjaaGreatW.PrintWords Go.Proofs.YtmljebgideecjaaGreatW.PrintLast Go.Proofs.YtmljebgideecjaaGreatW.PrintMore
attribute [local go_sem] max2_int min2_int max_two min_two max_three min_three max_four min_four   -- for this text's walks alone



end Go.Proofs.YtmljebgideecjaaGreat.P2
namespace Go.Proofs.YtmljebgideecjaaGreatW.PrintWords
section
variable {α : Type}
theorem Ev.shift {g : Nat → Option α} {r : α} (h : Ev (fun k => g (k + 1)) r) : Ev g r := Ev.step (fun _ => rfl) h
theorem Ev.val {a r : α} (h : a = r) : Ev (fun _ => some a) r := by subst h; exact Ev.now _
theorem Ev.of_eq {o : Option α} {r : α} (h : o = some r) : Ev (fun _ => o) r := by subst h; exact Ev.now _
theorem Ev.to {g : Nat → Option α} {a r : α} (h : Ev g a) (e : a = r) : Ev g r := e ▸ h
theorem Ev.pos {p : Prop} [Decidable p] {g f : Nat → Option α} {r : α} (h : p) (hg : Ev g r) : Ev (fun k => if p then g k else f k) r := by
  simp only [if_pos h]; exact hg
theorem Ev.neg {p : Prop} [Decidable p] {g f : Nat → Option α} {r : α} (h : ¬ p) (hf : Ev f r) : Ev (fun k => if p then g k else f k) r := by
  simp only [if_neg h]; exact hf
end
end Go.Proofs.YtmljebgideecjaaGreatW.PrintWords
namespace Go.Proofs.YtmljebgideecjaaGreatZ
open Go.RowKit Go.Proofs.YtmljebgideecjaaGreatW.PrintWords
theorem back {n : Nat} {Q : Nat → Prop} (hn : Q n) (hs : ∀ i, i < n → Q (i + 1) → Q i) : ∀ i, i ≤ n → Q i := by
  intro i hi
  obtain ⟨d, rfl⟩ : ∃ d, n = i + d := ⟨n - i, by omega⟩
  clear hi
  induction d generalizing i with
  | zero => exact hn
  | succ d ih =>
    refine hs i (by omega) (ih (i + 1) ?_ ?_)
    · rw [show i + 1 + d = i + (d + 1) by omega]; exact hn
    · intro j hj; exact hs j (by omega)
theorem w64 {n : Int} (h1 : -9223372036854775808 ≤ n) (h2 : n < 9223372036854775808) : wrap64 n = n := by unfold wrap64; omega
theorem i64_wf {n : Int} (h : (Lit.int .i64 n).wf = true) : -9223372036854775808 ≤ n ∧ n < 9223372036854775808 := by
  have := Go.bounds_i64 h; omega
theorem succ64 {i n : Nat} (h : i < n) (hn : n ≤ 9223372036854775807) : wrap64 ((i : Int) + 1) = ((i + 1 : Nat) : Int) := by
  rw [w64 (by omega) (by omega)]; simp
def lf (w t : Int) : Int := if w ≤ t then t - w else -1
theorem lf_pos {w t : Int} (h : w ≤ t) : lf w t = t - w := if_pos h
theorem lf_neg {w t : Int} (h : ¬ w ≤ t) : lf w t = -1 := if_neg h
section
variable {τ σ : Type}
def ctl (ct : τ → Int) : List τ → Int
  | [] => 0
  | x :: xs => ct x + ctl ct xs
theorem ctl_nonneg {ct : τ → Int} (h : ∀ x, 0 ≤ ct x) : ∀ l, 0 ≤ ctl ct l
  | [] => Int.le_refl 0
  | x :: xs => by have h1 := h x; have h2 := ctl_nonneg h xs; simp only [ctl]; omega
theorem get_mid (A : List τ) (x : τ) (B : List τ) : (A ++ x :: B)[A.length]? = some x := by
  rw [List.getElem?_append_right (Nat.le_refl _), Nat.sub_self]; rfl
theorem set_mid (A : List τ) (x y : τ) (B : List τ) : (A ++ x :: B).set A.length y = A ++ [y] ++ B := by
  rw [List.set_append_right _ _ (Nat.le_refl _), Nat.sub_self]; simp
theorem fill_ev (xs : List τ) (c : τ → σ) (z : σ) {g : Nat → List σ → Int → Option (List σ)} (hend : ∀ l : List σ, l.length = xs.length → Ev (fun k => g k l (xs.length : Int)) l)
    (hstep : ∀ (l : List σ) (i : Nat) (x : τ) (r : List σ), xs[i]? = some x → l.length = xs.length → i < xs.length → Ev (fun k => g k (l.set i (c x)) ((i + 1 : Nat) : Int)) r → Ev (fun k => g k l (i : Int)) r) :
    Ev (fun k => g k (List.replicate xs.length z) 0) (xs.map c) := by
  have key : ∀ (B A : List τ), xs = A ++ B → Ev (fun k => g k (A.map c ++ List.replicate B.length z) (A.length : Int)) (xs.map c) := by
    intro B
    induction B with
    | nil =>
      intro A hA
      rw [List.append_nil] at hA
      have := hend (xs.map c) (by simp)
      subst hA
      simp only [List.length_nil, List.replicate_zero, List.append_nil]
      exact this
    | cons x B ih =>
      intro A hA
      have h1 := ih (A ++ [x]) (by simp [hA])
      refine hstep _ A.length x _ (by rw [hA]; exact get_mid A x B) (by simp [hA]) (by simp [hA]) ?_
      have e : (A.map c ++ List.replicate (x :: B).length z).set A.length (c x) = (A ++ [x]).map c ++ List.replicate B.length z := by
        have := set_mid (A.map c) z (c x) (List.replicate B.length z)
        rw [List.length_map] at this
        simp only [List.length_cons, List.replicate_succ, List.map_append, List.map_cons, List.map_nil]
        exact this
      rw [e]
      simp only [List.length_append, List.length_singleton] at h1
      exact h1
  have := key xs [] rfl
  simpa using this
theorem look_ev (xs : List τ) {ρ : Type} (r : ρ) {g : Nat → Int → Option ρ} (hend : Ev (fun k => g k (xs.length : Int)) r)
    (hstep : ∀ (i : Nat) (x : τ), xs[i]? = some x → i < xs.length → Ev (fun k => g k ((i + 1 : Nat) : Int)) r → Ev (fun k => g k (i : Int)) r) : Ev (fun k => g k 0) r := by
  refine back (n := xs.length) (Q := fun i => Ev (fun k => g k (i : Int)) r) hend (fun i hi h => ?_) 0 (Nat.zero_le _)
  exact hstep i xs[i] (List.getElem?_eq_getElem hi) hi h
theorem size_ev (xs : List τ) (wt : τ → Int) (hw : ∀ x, 0 ≤ wt x) (M : Int) {g : Nat → Int → Int → Option Int} (hend : ∀ t, Ev (fun k => g k t (xs.length : Int)) t)
    (hneg : ∀ (t : Int) (i : Nat) (x : τ), xs[i]? = some x → i < xs.length → 0 ≤ t → t ≤ M → t < wt x → Ev (fun k => g k t (i : Int)) (-1))
    (hpos : ∀ (t : Int) (i : Nat) (x : τ) (r : Int), xs[i]? = some x → i < xs.length → 0 ≤ t → t ≤ M → wt x ≤ t → Ev (fun k => g k (t - wt x) ((i + 1 : Nat) : Int)) r → Ev (fun k => g k t (i : Int)) r) :
    ∀ t, 0 ≤ t → t ≤ M → Ev (fun k => g k t 0) (lf (ctl wt xs) t) := by
  have key : ∀ (B A : List τ), xs = A ++ B → ∀ t, 0 ≤ t → t ≤ M → Ev (fun k => g k t (A.length : Int)) (lf (ctl wt B) t) := by
    intro B
    induction B with
    | nil =>
      intro A hA t h0 h1
      rw [List.append_nil] at hA
      rw [← hA]
      refine (hend t).to ?_
      simp only [ctl]
      rw [lf_pos h0]
      omega
    | cons x B ih =>
      intro A hA t h0 h1
      have hx : xs[A.length]? = some x := by rw [hA]; exact get_mid A x B
      have hi : A.length < xs.length := by simp [hA]
      have hwx := hw x
      have hwB := ctl_nonneg hw B
      simp only [ctl]
      by_cases h : wt x ≤ t
      · have h2 := ih (A ++ [x]) (by simp [hA]) (t - wt x) (by omega) (by omega)
        rw [List.length_append, List.length_singleton] at h2
        have h3 := hpos t A.length x _ hx hi h0 h1 h h2
        by_cases h4 : ctl wt B ≤ t - wt x
        · rw [lf_pos h4] at h3; rw [lf_pos (by omega)]; exact h3.to (by omega)
        · rw [lf_neg h4] at h3; rw [lf_neg (by omega)]; exact h3
      · rw [lf_neg (by omega)]
        exact hneg t A.length x hx hi h0 h1 (by omega)
  intro t h0 h1
  exact key xs [] rfl t h0 h1
theorem getD_get {xs : List τ} {i : Nat} {x d : τ} (h : xs[i]? = some x) : xs.getD ((i : Int)).toNat d = x := by
  rw [Int.toNat_natCast, List.getD_eq_getElem?_getD, h]; rfl
end
theorem rd_get {xs : List Int} {i : Nat} {x : Int} (h : xs[i]? = some x) : rd xs i = x := getD_get h
end Go.Proofs.YtmljebgideecjaaGreatZ
namespace Go.Proofs.YtmljebgideecjaaGreat.P2
open Go.RowKit Go.Proofs.YtmljebgideecjaaGreatW.PrintWords Go.Proofs.YtmljebgideecjaaGreatW.PrintLast Go.Proofs.YtmljebgideecjaaGreatZ
abbrev lWord := S176
abbrev iWord := S140
def cWord (x : lWord) : iWord := ⟨x.f0, x.f1, x.f2⟩
theorem szWordS_eq (l : List lWord) (t : Int) (h0 : 0 ≤ t) (h1 : t ≤ 1048576) (hl : l.length ≤ 9223372036854775807) : laws_szWordS.f l t = some (lf (l.length : Int) t) := by
 have e : wrap64 (t - (l.length : Int)) = t - l.length := w64 (by omega) (by omega)
 unfold laws_szWordS.f lf
 rw [e]
 by_cases h : (l.length : Int) ≤ t
 ·rw [if_neg (by omega), if_pos h]
 ·rw [if_pos (by omega), if_neg h]
theorem toWordS_ev (l : List lWord) (hl : l.length ≤ 1048576) : Ev (fun k => laws_toWordS.f k l) (l.map cWord) := by
 have c1 : (0 : Int) ≤ (l.length : Int) := by omega
 simp only [laws_toWordS.f, c1, if_true, Int.toNat_natCast]
 refine Ev.pos (by omega) ?_
 refine fill_ev l cWord z140 (g := fun k s i => laws_toWordS.l0 k l s i) ?_ ?_
 ·intro s hs
  refine Ev.shift ?_
  simp only [laws_toWordS.l0, Int.lt_irrefl, if_false]
  exact Ev.now _
 ·intro s i x r hx hs hi h
  have hr : rd_T176 l (i : Int) = x := getD_get hx
  refine Ev.shift ?_
  have d1 : (i : Int) < (l.length : Int) := by omega
  have d2 : (0 : Int) ≤ (i : Int) := by omega
  have d3 : (i : Int) < (s.length : Int) := by omega
  simp only [laws_toWordS.l0, laws_toWord.f, Option.bind_some, d1, d2, d3, if_true, hr, Int.toNat_natCast, succ64 hi (by omega)]
  exact h
theorem eqWordS_ev (l : List iWord) (hl : l.length ≤ 9223372036854775807) : Ev (fun k => laws_eqWordS.f k l l) true := by
 simp only [laws_eqWordS.f, if_true]
 refine look_ev l true (g := fun k i => laws_eqWordS.l0 k l l i) ?_ ?_
 ·refine Ev.shift ?_
  simp only [laws_eqWordS.l0, Int.lt_irrefl, if_false]
  exact Ev.now _
 ·intro i x hx hi h
  refine Ev.shift ?_
  have d1 : (i : Int) < (l.length : Int) := by omega
  have d2 : (0 : Int) ≤ (i : Int) := by omega
  simp only [laws_eqWordS.l0, laws_eqWord.f, bne_self_eq_false, Bool.false_eq_true, if_false, Option.bind_some, d1, d2, if_true, succ64 hi hl]
  exact h
abbrev lEntry := S224
abbrev iEntry := S165
def cEntry (x : lEntry) : iEntry := ⟨x.f0, x.f1, x.f2⟩
theorem szEntryS_eq (l : List lEntry) (t : Int) (h0 : 0 ≤ t) (h1 : t ≤ 1048576) (hl : l.length ≤ 9223372036854775807) : laws_szEntryS.f l t = some (lf (l.length : Int) t) := by
 have e : wrap64 (t - (l.length : Int)) = t - l.length := w64 (by omega) (by omega)
 unfold laws_szEntryS.f lf
 rw [e]
 by_cases h : (l.length : Int) ≤ t
 ·rw [if_neg (by omega), if_pos h]
 ·rw [if_pos (by omega), if_neg h]
theorem toEntryS_ev (l : List lEntry) (hl : l.length ≤ 1048576) : Ev (fun k => laws_toEntryS.f k l) (l.map cEntry) := by
 have c1 : (0 : Int) ≤ (l.length : Int) := by omega
 simp only [laws_toEntryS.f, c1, if_true, Int.toNat_natCast]
 refine Ev.pos (by omega) ?_
 refine fill_ev l cEntry z165 (g := fun k s i => laws_toEntryS.l0 k l s i) ?_ ?_
 ·intro s hs
  refine Ev.shift ?_
  simp only [laws_toEntryS.l0, Int.lt_irrefl, if_false]
  exact Ev.now _
 ·intro s i x r hx hs hi h
  have hr : rd_T224 l (i : Int) = x := getD_get hx
  refine Ev.shift ?_
  have d1 : (i : Int) < (l.length : Int) := by omega
  have d2 : (0 : Int) ≤ (i : Int) := by omega
  have d3 : (i : Int) < (s.length : Int) := by omega
  simp only [laws_toEntryS.l0, laws_toEntry.f, Option.bind_some, d1, d2, d3, if_true, hr, Int.toNat_natCast, succ64 hi (by omega)]
  exact h
theorem eqEntryS_ev (l : List iEntry) (hl : l.length ≤ 9223372036854775807) : Ev (fun k => laws_eqEntryS.f k l l) true := by
 simp only [laws_eqEntryS.f, if_true]
 refine look_ev l true (g := fun k i => laws_eqEntryS.l0 k l l i) ?_ ?_
 ·refine Ev.shift ?_
  simp only [laws_eqEntryS.l0, Int.lt_irrefl, if_false]
  exact Ev.now _
 ·intro i x hx hi h
  refine Ev.shift ?_
  have d1 : (i : Int) < (l.length : Int) := by omega
  have d2 : (0 : Int) ≤ (i : Int) := by omega
  simp only [laws_eqEntryS.l0, laws_eqEntry.f, bne_self_eq_false, Bool.false_eq_true, if_false, Option.bind_some, d1, d2, if_true, succ64 hi hl]
  exact h
theorem toIntS_ev (l : List Int) (hl : l.length ≤ 1048576) : Ev (fun k => laws_toIntS.f k l) l := by
 have c1 : (0 : Int) ≤ (l.length : Int) := by omega
 have c2 : l.length ≤ 35184372088832 := by omega
 simp only [laws_toIntS.f, c1, c2, if_true, Int.toNat_natCast]
 have h := fill_ev l id (0 : Int) (g := fun k s i => laws_toIntS.l0 k l s i) ?_ ?_
 ·rw [List.map_id] at h
  exact h
 ·intro s hs
  refine Ev.shift ?_
  simp only [laws_toIntS.l0, Int.lt_irrefl, if_false]
  exact Ev.now _
 ·intro s i x r hx hs hi h
  refine Ev.shift ?_
  have d1 : (i : Int) < (l.length : Int) := by omega
  have d2 : (0 : Int) ≤ (i : Int) := by omega
  have d3 : (i : Int) < (s.length : Int) := by omega
  simp only [laws_toIntS.l0, d1, d2, d3, if_true, rd_get hx, Int.toNat_natCast, succ64 hi (by omega)]
  exact h
theorem eqIntS_ev (l : List Int) (hl : l.length ≤ 9223372036854775807) : Ev (fun k => laws_eqIntS.f k l l) true := by
 simp only [laws_eqIntS.f, if_true]
 refine look_ev l true (g := fun k i => laws_eqIntS.l0 k l l i) ?_ ?_
 ·refine Ev.shift ?_
  simp only [laws_eqIntS.l0, Int.lt_irrefl, if_false]
  exact Ev.now _
 ·intro i x hx hi h
  refine Ev.shift ?_
  have d1 : (i : Int) < (l.length : Int) := by omega
  have d2 : (0 : Int) ≤ (i : Int) := by omega
  simp only [laws_eqIntS.l0, d1, d2, if_true, succ64 hi hl]
  exact h
theorem szIntS_eq (l : List Int) (t : Int) (h0 : 0 ≤ t) (h1 : t ≤ 1048576) (hl : l.length ≤ 9223372036854775807) : laws_szIntS.f l t = some (lf (l.length : Int) t) := by
 have e : wrap64 (t - (l.length : Int)) = t - l.length := w64 (by omega) (by omega)
 unfold laws_szIntS.f lf
 rw [e]
 by_cases h : (l.length : Int) ≤ t
 ·rw [if_neg (by omega), if_pos h]
 ·rw [if_pos (by omega), if_neg h]
theorem lf_then {a b t : Int} {G : Int → Option Int} (ha : 0 ≤ a) (hb : 0 ≤ b) (ht : t ≤ 1048576) (hG : ∀ u, 0 ≤ u → u ≤ 1048576 → G u = some (lf b u)) : (if lf a t < 0 then some (-1) else G (lf a t)) = some (lf (a + b) t) := by
 by_cases h : a ≤ t
 ·rw [lf_pos h, if_neg (by omega), hG _ (by omega) (by omega)]
  unfold lf
  by_cases h2 : b ≤ t - a
  ·rw [if_pos h2, if_pos (by omega)]; congr 1; omega
  ·rw [if_neg h2, if_neg (by omega)]
 ·rw [lf_neg h, if_pos (by decide), lf_neg (by omega)]
theorem lf_last {a t : Int} (ha : 0 ≤ a) : (if lf a t < 0 then some (-1) else some (lf a t)) = some (lf a t) := by
 by_cases h : a ≤ t
 ·rw [lf_pos h, if_neg (by omega)]
 ·rw [lf_neg h, if_pos (by decide)]
theorem szRes_eq (a : Int) (l : List Int) (t : Int) (h0 : 0 ≤ t) (h1 : t ≤ 1048576) (hl : l.length ≤ 9223372036854775807) : laws_szRes.f a l t = some (lf (l.length : Int) t) := by
 simp only [laws_szRes.f]
 rw [szIntS_eq l t h0 h1 hl, Option.bind_some]
 exact lf_last (by omega)
theorem toRes_ev (a : Int) (l : List Int) (hl : l.length ≤ 1048576) : Ev (fun k => laws_toRes.f k a l) (a, l) := by
 simp only [laws_toRes.f]
 exact Ev.bind (toIntS_ev l hl) (Ev.now _)
theorem eqRes_ev (a : Int) (l : List Int) (hl : l.length ≤ 9223372036854775807) : Ev (fun k => laws_eqRes.f k a l a l) true := by
 simp only [laws_eqRes.f, if_true]
 refine Ev.bind (eqIntS_ev l hl) ?_
 simp only [if_true]
 exact Ev.now _
theorem ctl_mem {τ : Type} {ct : τ → Int} (h : ∀ x, 0 ≤ ct x) {x : τ} : ∀ {l : List τ}, x ∈ l → ct x ≤ ctl ct l
 | [], m => by cases m
 | y :: l, m => by
  have h1 := h y
  have h2 := ctl_nonneg h l
  simp only [ctl]
  rcases List.mem_cons.mp m with e | m
  ·rw [e]; omega
  ·have := ctl_mem h m; omega
abbrev lDesc := S155
abbrev iDesc := S162
def cDesc (x : lDesc) : iDesc := ⟨x.f0, x.f1, x.f2.map cEntry, ⟨x.f3.f0, x.f3.f1⟩⟩
def wtDesc (x : lDesc) : Int := (x.f2.length : Int) + x.f3.f1.length
def smDesc (x : iDesc) : Prop := x.f2.length ≤ 1048576 ∧ x.f3.f1.length ≤ 1048576
theorem wtDesc_nn (x : lDesc) : 0 ≤ wtDesc x := by unfold wtDesc; omega
theorem smDesc_of (x : lDesc) (h : wtDesc x ≤ 1048576) : smDesc (cDesc x) := by
 unfold wtDesc at h
 simp only [smDesc, cDesc, List.length_map]
 omega
theorem szDesc_eq (x : lDesc) (t : Int) (h0 : 0 ≤ t) (h1 : t ≤ 1048576) (hw : x.f2.length ≤ 9223372036854775807 ∧ x.f3.f1.length ≤ 9223372036854775807) : laws_szDesc.f x.f0 x.f1 x.f2 x.f3.f0 x.f3.f1 t = some (lf (wtDesc x) t) := by
 unfold wtDesc
 simp only [laws_szDesc.f]
 rw [szEntryS_eq _ t h0 h1 hw.1, Option.bind_some]
 exact lf_then (a := (x.f2.length : Int)) (b := (x.f3.f1.length : Int)) (G := fun u => (laws_szRes.f x.f3.f0 x.f3.f1 u).bind fun t103 => (if t103 < 0 then some (-1) else some t103)) (by omega) (by omega) h1 (fun u u0 u1 => by show (laws_szRes.f x.f3.f0 x.f3.f1 u).bind _ = _; rw [szRes_eq _ _ u u0 u1 hw.2, Option.bind_some]; exact lf_last (by omega))
theorem toDesc_ev (x : lDesc) (h : wtDesc x ≤ 1048576) : Ev (fun k => laws_toDesc.f k x.f0 x.f1 x.f2 x.f3.f0 x.f3.f1) (x.f0, x.f1, x.f2.map cEntry, x.f3.f0, x.f3.f1) := by
 unfold wtDesc at h
 simp only [laws_toDesc.f]
 refine Ev.bind (toEntryS_ev _ (by omega)) (Ev.bind (toRes_ev _ _ (by omega)) (Ev.now _))
theorem eqDesc_ev (x : iDesc) (h : smDesc x) : Ev (fun k => laws_eqDesc.f k x.f0 x.f1 x.f2 x.f3.f0 x.f3.f1 x.f0 x.f1 x.f2 x.f3.f0 x.f3.f1) true := by
 unfold smDesc at h
 simp only [laws_eqDesc.f, if_true]
 refine Ev.bind (eqEntryS_ev _ (by omega)) ?_
 simp only [if_true]
 refine Ev.bind (eqRes_ev _ _ (by omega)) ?_
 simp only [if_true]
 exact Ev.now _
theorem szDescS_ev (l : List lDesc) (hl : l.length ≤ 9223372036854775807) (hw : ∀ x ∈ l, x.f2.length ≤ 9223372036854775807 ∧ x.f3.f1.length ≤ 9223372036854775807) (t : Int) (h0 : 0 ≤ t) (h1 : t ≤ 1048576) : Ev (fun k => laws_szDescS.f k l t) (lf (l.length + ctl wtDesc l) t) := by
 have hc := ctl_nonneg wtDesc_nn l
 have e : wrap64 (t - (l.length : Int)) = t - l.length := w64 (by omega) (by omega)
 simp only [laws_szDescS.f, e]
 by_cases h : (l.length : Int) ≤ t
 ·have c : ¬ (t - (l.length : Int) < 0) := by omega
  simp only [c, if_false]
  have h := size_ev l wtDesc wtDesc_nn 1048576 (g := fun k t i => laws_szDescS.l0 k l t i) ?_ ?_ ?_ (t - l.length) (by omega) (by omega)
  ·refine h.to ?_
   unfold lf
   by_cases h2 : ctl wtDesc l ≤ t - l.length
   ·rw [if_pos h2, if_pos (by omega)]; omega
   ·rw [if_neg h2, if_neg (by omega)]
  ·intro t
   refine Ev.shift ?_
   simp only [laws_szDescS.l0, Int.lt_irrefl, if_false]
   exact Ev.now _
  ·intro t i x hx hi h0 h1 hlt
   have hr : rd_T155 l (i : Int) = x := getD_get hx
   have d1 : (i : Int) < (l.length : Int) := by omega
   have d2 : (0 : Int) ≤ (i : Int) := by omega
   refine Ev.shift ?_
   simp only [laws_szDescS.l0, d1, d2, if_true, hr, szDesc_eq x t h0 h1 (hw x (List.mem_of_getElem? hx)), lf_neg (show ¬ wtDesc x ≤ t by omega), Option.bind_some, show (-1 : Int) < 0 by decide]
   exact Ev.now _
  ·intro t i x r hx hi h0 h1 hle h
   have hr : rd_T155 l (i : Int) = x := getD_get hx
   have d1 : (i : Int) < (l.length : Int) := by omega
   have d2 : (0 : Int) ≤ (i : Int) := by omega
   have d3 : ¬ (t - wtDesc x < 0) := by omega
   refine Ev.shift ?_
   simp only [laws_szDescS.l0, d1, d2, if_true, hr, szDesc_eq x t h0 h1 (hw x (List.mem_of_getElem? hx)), lf_pos hle, Option.bind_some, d3, if_false, succ64 hi hl]
   exact h
 ·have c : t - (l.length : Int) < 0 := by omega
  simp only [c, if_true]
  exact Ev.val (lf_neg (by omega)).symm
theorem toDescS_ev (l : List lDesc) (hl : l.length ≤ 1048576) (hw : ctl wtDesc l ≤ 1048576) : Ev (fun k => laws_toDescS.f k l) (l.map cDesc) := by
 have c1 : (0 : Int) ≤ (l.length : Int) := by omega
 simp only [laws_toDescS.f, c1, if_true, Int.toNat_natCast]
 refine Ev.pos (by omega) ?_
 refine fill_ev l cDesc z162 (g := fun k s i => laws_toDescS.l0 k l s i) ?_ ?_
 ·intro s hs
  refine Ev.shift ?_
  simp only [laws_toDescS.l0, Int.lt_irrefl, if_false]
  exact Ev.now _
 ·intro s i x r hx hs hi h
  have hr : rd_T155 l (i : Int) = x := getD_get hx
  have hm := ctl_mem wtDesc_nn (List.mem_of_getElem? hx)
  refine Ev.shift ?_
  have d1 : (i : Int) < (l.length : Int) := by omega
  have d2 : (0 : Int) ≤ (i : Int) := by omega
  have d3 : (i : Int) < (s.length : Int) := by omega
  simp only [laws_toDescS.l0, d1, d2, if_true, hr]
  refine Ev.bind (toDesc_ev x (by omega)) ?_
  simp only [d3, if_true, Int.toNat_natCast, succ64 hi (by omega)]
  exact h
theorem eqDescS_ev (l : List iDesc) (hl : l.length ≤ 9223372036854775807) (hs : ∀ x ∈ l, smDesc x) : Ev (fun k => laws_eqDescS.f k l l) true := by
 simp only [laws_eqDescS.f, if_true]
 refine look_ev l true (g := fun k i => laws_eqDescS.l0 k l l i) ?_ ?_
 ·refine Ev.shift ?_
  simp only [laws_eqDescS.l0, Int.lt_irrefl, if_false]
  exact Ev.now _
 ·intro i x hx hi h
  have hr : rd_T162 l (i : Int) = x := getD_get hx
  refine Ev.shift ?_
  have d1 : (i : Int) < (l.length : Int) := by omega
  have d2 : (0 : Int) ≤ (i : Int) := by omega
  simp only [laws_eqDescS.l0, d1, d2, if_true, hr, succ64 hi hl]
  refine Ev.bind (eqDesc_ev x (hs x (List.mem_of_getElem? hx))) ?_
  simp only [if_true]
  exact h
abbrev lOp := S116
abbrev iOp := S69
def cOp (x : lOp) : iOp := ⟨x.f0, x.f1, x.f2⟩
theorem szOpS_eq (l : List lOp) (t : Int) (h0 : 0 ≤ t) (h1 : t ≤ 1048576) (hl : l.length ≤ 9223372036854775807) : laws_szOpS.f l t = some (lf (l.length : Int) t) := by
 have e : wrap64 (t - (l.length : Int)) = t - l.length := w64 (by omega) (by omega)
 unfold laws_szOpS.f lf
 rw [e]
 by_cases h : (l.length : Int) ≤ t
 ·rw [if_neg (by omega), if_pos h]
 ·rw [if_pos (by omega), if_neg h]
theorem toOpS_ev (l : List lOp) (hl : l.length ≤ 1048576) : Ev (fun k => laws_toOpS.f k l) (l.map cOp) := by
 have c1 : (0 : Int) ≤ (l.length : Int) := by omega
 simp only [laws_toOpS.f, c1, if_true, Int.toNat_natCast]
 refine Ev.pos (by omega) ?_
 refine fill_ev l cOp z69 (g := fun k s i => laws_toOpS.l0 k l s i) ?_ ?_
 ·intro s hs
  refine Ev.shift ?_
  simp only [laws_toOpS.l0, Int.lt_irrefl, if_false]
  exact Ev.now _
 ·intro s i x r hx hs hi h
  have hr : rd_T116 l (i : Int) = x := getD_get hx
  refine Ev.shift ?_
  have d1 : (i : Int) < (l.length : Int) := by omega
  have d2 : (0 : Int) ≤ (i : Int) := by omega
  have d3 : (i : Int) < (s.length : Int) := by omega
  simp only [laws_toOpS.l0, laws_toOp.f, Option.bind_some, d1, d2, d3, if_true, hr, Int.toNat_natCast, succ64 hi (by omega)]
  exact h
theorem eqOpS_ev (l : List iOp) (hl : l.length ≤ 9223372036854775807) : Ev (fun k => laws_eqOpS.f k l l) true := by
 simp only [laws_eqOpS.f, if_true]
 refine look_ev l true (g := fun k i => laws_eqOpS.l0 k l l i) ?_ ?_
 ·refine Ev.shift ?_
  simp only [laws_eqOpS.l0, Int.lt_irrefl, if_false]
  exact Ev.now _
 ·intro i x hx hi h
  refine Ev.shift ?_
  have d1 : (i : Int) < (l.length : Int) := by omega
  have d2 : (0 : Int) ≤ (i : Int) := by omega
  simp only [laws_eqOpS.l0, laws_eqOp.f, bne_self_eq_false, Bool.false_eq_true, if_false, Option.bind_some, d1, d2, if_true, succ64 hi hl]
  exact h
end Go.Proofs.YtmljebgideecjaaGreat.P2
