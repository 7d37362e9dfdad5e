/- The law FnExactProgOf holds, as_ its card says it: for every input the call returns true, and each argument reads afterwards as_ it read before. Conditions: the two listed variables of unicode/utf8 start as_ the library's text lays them (the card ties them); the call reads neither. Written by a program of this session. -/
import Derived.OpenShut
import Derived.DataElems
import Derived.DataReads
import Derived.Lib.SplitLaws
import Derived.Lib.IndexBytes
import Derived.Lib.IndexLaws
import Derived.Lib.Join
import Derived.Test.YtafcfhgdblefgaaDoorCards
import Derived.Test.YtafcfhgdblefgaaDoorTie
import Derived.WalkKit
import Derived.ProofKit
import Derived.ShutString
import Derived.ChangeOld
import Derived.Below
import Derived.SizedLaws
import Derived.Carry
import Derived.Deep.DeepHandedRow
import Derived.Lib.LaidTab
import Derived.Test.YtafcfhgdblefgaaDoorPkFnExactProgOf1
set_option linter.unusedSimpArgs false
set_option linter.unusedVariables false
namespace Go.Proofs.YtafcfhgdblefgaaDoor.P
open Go.Proofs.YtafcfhgdblefgaaDoorZ Go.RowKit Go.Proofs.YtafcfhgdblefgaaDoorW.PrintWords Go.Proofs.YtafcfhgdblefgaaDoorW.PrintLast Go.Proofs.YtafcfhgdblefgaaDoorW.PrintMore
attribute [local go_sem] max2_int min2_int max_two min_two max_three min_three max_four min_four   -- for this text's walks alone
def laws_markOpS.l0 : Nat → List (S23) → Int → Int → Option (Int × (List (S23)))
  | 0, _, _, _ => none
  | k + 1, x0, x1, x5 => if x5 < (x0.length : Int) then (if 0 ≤ x5 then ((some (x0.set (x5 : Int).toNat (⟨x1, (rd_T23 x0 x5).f1, (rd_T23 x0 x5).f2⟩ : S23) : List (S23))).bind fun y101 => ((some (y101.set (x5 : Int).toNat (⟨(rd_T23 y101 x5).f0, wrap64 (x1 + 1), (rd_T23 y101 x5).f2⟩ : S23) : List (S23))).bind fun y102 => (laws_markOpS.l0 k (y102.set (x5 : Int).toNat (⟨(rd_T23 y102 x5).f0, (rd_T23 y102 x5).f1, wrap64 ((wrap64 (x1 + 1)) + 1)⟩ : S23)) (wrap64 ((wrap64 ((wrap64 (x1 + 1)) + 1)) + 1)) (wrap64 (x5 + 1))))) else (none)) else (some (x1, x0))
def laws_markOpS.f (k : Nat) (l0 : List (S23)) (a1 : Int) : Option (Int × (List (S23))) := laws_markOpS.l0 k l0 a1 0
set_option maxHeartbeats 8000000 in
set_option maxRecDepth 100000 in
theorem laws_markOpS.calls (k : Nat) (P0_ : Nat → Prop) (u9000_ : Value) (l0 : List (S23)) (a1 : Int) (r1 : Int) (r2 : List (S23)) (w0 w : World) (hB : Below w0.heap.size w0 w) (ho0 : Kd.R k23 23 w w0.heap.size P0_ u9000_ l0) (h : laws_markOpS.f k l0 a1 = some (r1, r2)) :
    Calls Tryd.prog 12 #[u9000_, .int .i64 a1] w fun e w' => e = .returned (.int .i64 r1) ∧ Kd.R k23 23 w' w0.heap.size (fun k_ => (P0_ k_ ∨ w.heap.size ≤ k_)) u9000_ r2 ∧ Below w0.heap.size w0 w' ∧ Kept w w' (fun k_ => P0_ k_) := by
  have HO0 := aM (show Kd.R k23 23 w w0.heap.size (fun k_ => (P0_ k_ ∨ w.heap.size ≤ k_)) u9000_ l0 from Kd.R_mono ho0 (fun k_ hk => (.inl hk)))
  have HK := aM (Kept.refl w (fun k_ => P0_ k_))
  have HW0 := aM hB.size
  have HB := aM hB
  clear hB
  have H := h
  unfold laws_markOpS.f at H
  clear h
  have H' := aM H
  clear H
  go_enter Tryd.func12, Tryd.ntmps12
  go_wp2
  go_loopg [1, 5] k (fun kq v1 v5 w' => ∃ (x0_1 : List (S23)) (x1_1 : Int) (x5_1 : Int), v1 = .int .i64 x1_1 ∧ v5 = .int .i64 x5_1 ∧ Aside0 (laws_markOpS.l0 kq x0_1 x1_1 x5_1 = some (r1, r2)) ∧ Aside0 (kq ≤ k) ∧ Aside0 (Kd.R k23 23 w' w0.heap.size (fun k_ => (P0_ k_ ∨ w.heap.size ≤ k_)) u9000_ x0_1) ∧ Aside0 (Kept w w' (fun k_ => P0_ k_)) ∧ Aside0 (Below w0.heap.size w0 w'))
  case atStart => exact ⟨(l0), (a1), (0), rS, rS, H', ⟨Nat.le_refl _⟩, ⟨(rX HO0.out)⟩, ⟨by repeat (first | (with_reducible first | exact HK.out | apply Kept.alloc | apply Kept.drewN | apply Kept.drew) | exact HK.out)⟩, ⟨(hX HB.out)⟩⟩
  case round =>
    clear H'
    try clear p2
    obtain ⟨x0_1, x1_1, x5_1, rfl, rfl, HA, HKy1, HO_y1, HK, HB⟩ := hrel
    cases gk with
    | zero => exact absurd HA.out (by simp [laws_markOpS.l0])
    | succ k1 =>
      have H := HA.out
      clear HA
      simp only [laws_markOpS.l0] at H
      by_cases c3 : x5_1 < (x0_1.length : Int)
      case neg =>
        rw [if_neg c3] at H
        have c3b0 := decide_eq_false c3
        clear c3
        simp only [Option.some.injEq, Prod.mk.injEq] at H
        obtain ⟨rfl, rfl⟩ := H
        obtain ⟨Aox1, cox1, eox1⟩ := Kd.R_slice HO_y1.out
        subst eox1
        go_wp2
        go_ret
        exact ⟨rE, (rX HO_y1.out), (hX HB.out), by repeat (first | (with_reducible first | exact HK.out | apply Kept.alloc | apply Kept.drewN | apply Kept.drew) | exact HK.out)⟩
      rw [if_pos c3] at H
      have c3b0 := decide_eq_true c3
      clear c3
      replace H := ifP H; obtain ⟨c4, H⟩ := H
      have c4b0 := decide_eq_true c4
      clear c4
      obtain ⟨y101, hy101⟩ : ∃ y_ : List (S23), y_ = (x0_1.set (x5_1 : Int).toNat (⟨x1_1, (rd_T23 x0_1 x5_1).f1, (rd_T23 x0_1 x5_1).f2⟩ : S23)) := ⟨_, rfl⟩
      replace H : ((some (y101.set (x5_1 : Int).toNat (⟨(rd_T23 y101 x5_1).f0, wrap64 (x1_1 + 1), (rd_T23 y101 x5_1).f2⟩ : S23) : List (S23))).bind fun y102 => (laws_markOpS.l0 k1 (y102.set (x5_1 : Int).toNat (⟨(rd_T23 y102 x5_1).f0, (rd_T23 y102 x5_1).f1, wrap64 ((wrap64 (x1_1 + 1)) + 1)⟩ : S23)) (wrap64 ((wrap64 ((wrap64 (x1_1 + 1)) + 1)) + 1)) (wrap64 (x5_1 + 1)))) = some (r1, r2) := yH H hy101
      have Ny101 := aM hy101
      clear hy101
      replace H := sE H; obtain ⟨y102, Ny102, H⟩ := H
      obtain ⟨y103, hy103⟩ : ∃ y_ : List (S23), y_ = (y102.set (x5_1 : Int).toNat (⟨(rd_T23 y102 x5_1).f0, (rd_T23 y102 x5_1).f1, wrap64 ((wrap64 (x1_1 + 1)) + 1)⟩ : S23)) := ⟨_, rfl⟩
      replace H : (laws_markOpS.l0 k1 y103 (wrap64 ((wrap64 ((wrap64 (x1_1 + 1)) + 1)) + 1)) (wrap64 (x5_1 + 1))) = some (r1, r2) := yH H hy103
      have Ny103 := aM hy103
      clear hy103
      have H' := aM H
      clear H
      obtain ⟨Aox1, cox1, eox1⟩ := Kd.R_slice HO_y1.out
      subst eox1
      have px1 : 0 ≤ (x5_1 : Int) := odA
      have qx1 : (x5_1 : Int) < ((x0_1.length : Int) : Int) := odA
      obtain ⟨gox1, cox2, eox2, gbx1, glx1, clx1, HGx1⟩ := Kd.R_form HO_y1.out (by omega)
      (first | cases eox2 | (injection eox2 with ea_ en_ ec_; (first | subst ea_ | (injection ea_ with ea_; subst ea_)); subst ec_; clear en_))
      have GBx1 := aM gbx1
      have GGx1 := aM HGx1
      clear gbx1 glx1 HGx1
      have HMgox1 := aM (show (P0_ gox1 ∨ w.heap.size ≤ gox1) from (HO_y1.out.1 _ rfl))
      obtain ⟨cex1, hclx1, hMx1, hccx1, hfrx1⟩ := Kd.R_elem HO_y1.out z23 (x5_1 : Int) px1 qx1
      obtain rfl := k23_openM hMx1
      have hxx1 : wr.cell? ⟨gox1, (x5_1 : Int).toNat * 3, none⟩ = some (.int .i64 ((rd_T23 x0_1 x5_1).f0)) := hccx1 0 _ rfl
      have hxx2 : wr.cell? ⟨gox1, (x5_1 : Int).toNat * 3 + 1, none⟩ = some (.int .i64 ((rd_T23 x0_1 x5_1).f1)) := hccx1 1 _ rfl
      have hxx3 : wr.cell? ⟨gox1, (x5_1 : Int).toNat * 3 + 2, none⟩ = some (.int .i64 ((rd_T23 x0_1 x5_1).f2)) := hccx1 2 _ rfl
      have hfx1 : wr.frozen? ⟨gox1, (x5_1 : Int).toNat * 3, none⟩ = false := hfrx1 0
      have hfx2 : wr.frozen? ⟨gox1, (x5_1 : Int).toNat * 3 + 1, none⟩ = false := hfrx1 1
      have hfx3 : wr.frozen? ⟨gox1, (x5_1 : Int).toNat * 3 + 2, none⟩ = false := hfrx1 2
      clear hclx1 hccx1 hfrx1 hMx1
      replace px1 := eq_true px1
      replace qx1 := eq_true qx1
      have HXx1 := aM (show Kd.R k23 23 wr w0.heap.size (fun k_ => (P0_ k_ ∨ w.heap.size ≤ k_)) (.slice (some ⟨gox1, 0, none⟩) x0_1.length cox1) x0_1 from (rX HO_y1.out))
      obtain ⟨cex2, hclx2, hMx2, hccx2, hfrx2⟩ := Kd.R_elem HXx1.out z23 (x5_1 : Int) (odA) (by have h_ : (x5_1 : Int) < ((x0_1.length : Int) : Int) := odA; first | exact h_ | (have e_ := (Kd.R_reads' HO_y1.out).1; omega) | simpa using h_)
      obtain rfl := k23_openM hMx2
      have HPx1 := Kd.R_seg HXx1.out (x5_1 : Int) (odA) (by have h_ : (x5_1 : Int) < ((x0_1.length : Int) : Int) := odA; first | exact h_ | (have e_ := (Kd.R_reads' HO_y1.out).1; omega) | simpa using h_) (seg := [.int .i64 x1_1]) (j := 0) hclx2 hccx2 (show 1 ≤ 3 from by decide) (x' := (⟨x1_1, (rd_T23 x0_1 x5_1).f1, (rd_T23 x0_1 x5_1).f2⟩ : S23)) (k23_mkM _ _ _ (⟨x1_1, (rd_T23 x0_1 x5_1).f1, (rd_T23 x0_1 x5_1).f2⟩ : S23) ) (fun _ hk => hk)
      have hxx4 := hccx2 0 _ rfl
      (try simp only [show (k23).sz = 3 from rfl, Nat.mul_one, Nat.add_zero] at hxx4)
      have hfx4 := hfrx2 0
      (try simp only [show (k23).sz = 3 from rfl, Nat.mul_one, Nat.add_zero] at hfx4)
      clear hclx2 hccx2 hfrx2 hMx2
      go_wp2_with (first | ((with_reducible refine gate_store (t := 3) (p := 16) rfl ?_); refine store_event (t := 3) (p := 16) (v := ?vo_wx1) (w1 := (wr.setCell ⟨gox1, (x5_1 : Int).toNat * 3, none⟩ (.int .i64 x1_1))) ?hg ?ho ?hn ?hr ?_; (case ho => rfl); (case hg => rfl); (case hn => rfl); (case hr => first | (go_simp; done) | (go_simp; rfl)); intro wx1 hw; have hg : wr.grownBy wx1 (some gox1) := (by rw [hw]; exact HPx1.2); have hp_ : Kd.R k23 23 wx1 w0.heap.size (fun k_ => (P0_ k_ ∨ w.heap.size ≤ k_)) (.slice (some ⟨gox1, 0, none⟩) x0_1.length cox1) y101 := (by rw [hw, Ny101.out]; exact HPx1.1); clear HPx1; replace HB := aM ((by rw [hw]; exact below_set (HB.out) GBx1.out : Below w0.heap.size w0 wx1)); replace HK := aM (Kept.of_grown (S := (fun k_ => P0_ k_)) hg (by repeat (first | (with_reducible first | exact HK.out | apply Kept.alloc | apply Kept.drewN | apply Kept.drew) | exact HK.out)) (fun k_ e_ => (HO_y1.out.1 k_ e_))); replace HO_y1 := aM (hp_); clear hg hw hp_; have px2 : 0 ≤ (x5_1 : Int) := odA; have qx2 : (x5_1 : Int) < ((x0_1.length : Int) : Int) := odA; obtain ⟨cex3, hclx3, hMx3, hccx3, hfrx3⟩ := Kd.R_elem HO_y1.out z23 (x5_1 : Int) px2 qx2; obtain rfl := k23_openM hMx3; have hxx5 : wx1.cell? ⟨gox1, (x5_1 : Int).toNat * 3, none⟩ = some (.int .i64 ((rd_T23 y101 x5_1).f0)) := hccx3 0 _ rfl; have hxx6 : wx1.cell? ⟨gox1, (x5_1 : Int).toNat * 3 + 1, none⟩ = some (.int .i64 ((rd_T23 y101 x5_1).f1)) := hccx3 1 _ rfl; have hxx7 : wx1.cell? ⟨gox1, (x5_1 : Int).toNat * 3 + 2, none⟩ = some (.int .i64 ((rd_T23 y101 x5_1).f2)) := hccx3 2 _ rfl; have hfx5 : wx1.frozen? ⟨gox1, (x5_1 : Int).toNat * 3, none⟩ = false := hfrx3 0; have hfx6 : wx1.frozen? ⟨gox1, (x5_1 : Int).toNat * 3 + 1, none⟩ = false := hfrx3 1; have hfx7 : wx1.frozen? ⟨gox1, (x5_1 : Int).toNat * 3 + 2, none⟩ = false := hfrx3 2; clear hclx3 hccx3 hfrx3 hMx3; replace px2 := eq_true px2; replace qx2 := eq_true qx2; have HXx2 := aM (show Kd.R k23 23 wx1 w0.heap.size (fun k_ => (P0_ k_ ∨ w.heap.size ≤ k_)) (.slice (some ⟨gox1, 0, none⟩) x0_1.length cox1) y101 from (rX HO_y1.out)); obtain ⟨cex4, hclx4, hMx4, hccx4, hfrx4⟩ := Kd.R_elem HXx2.out z23 (x5_1 : Int) (odA) (by have h_ : (x5_1 : Int) < ((x0_1.length : Int) : Int) := odA; first | exact h_ | (have e_ := (Kd.R_reads' HO_y1.out).1; omega) | simpa using h_); obtain rfl := k23_openM hMx4; have HPx2 := Kd.R_seg HXx2.out (x5_1 : Int) (odA) (by have h_ : (x5_1 : Int) < ((x0_1.length : Int) : Int) := odA; first | exact h_ | (have e_ := (Kd.R_reads' HO_y1.out).1; omega) | simpa using h_) (seg := [.int .i64 (wrap64 (x1_1 + 1))]) (j := 1) hclx4 hccx4 (show 2 ≤ 3 from by decide) (x' := (⟨(rd_T23 y101 x5_1).f0, wrap64 (x1_1 + 1), (rd_T23 y101 x5_1).f2⟩ : S23)) (k23_mkM _ _ _ (⟨(rd_T23 y101 x5_1).f0, wrap64 (x1_1 + 1), (rd_T23 y101 x5_1).f2⟩ : S23) ) (fun _ hk => hk); have hxx8 := hccx4 1 _ rfl; (try simp only [show (k23).sz = 3 from rfl, Nat.mul_one, Nat.add_zero] at hxx8); have hfx8 := hfrx4 1; (try simp only [show (k23).sz = 3 from rfl, Nat.mul_one, Nat.add_zero] at hfx8); clear hclx4 hccx4 hfrx4 hMx4) | ((with_reducible refine gate_store (t := 3) (p := 23) rfl ?_); refine store_event (t := 3) (p := 23) (v := ?vo_wx2) (w1 := (wx1.setCell ⟨gox1, (x5_1 : Int).toNat * 3 + 1, none⟩ (.int .i64 (wrap64 (x1_1 + 1))))) ?hg ?ho ?hn ?hr ?_; (case ho => rfl); (case hg => rfl); (case hn => rfl); (case hr => first | (go_simp; done) | (go_simp; rfl)); intro wx2 hw; have hg : wx1.grownBy wx2 (some gox1) := (by rw [hw]; exact HPx2.2); have hp_ : Kd.R k23 23 wx2 w0.heap.size (fun k_ => (P0_ k_ ∨ w.heap.size ≤ k_)) (.slice (some ⟨gox1, 0, none⟩) x0_1.length cox1) y102 := (by rw [hw, Ny102.out]; exact HPx2.1); clear HPx2; replace HB := aM ((by rw [hw]; exact below_set (HB.out) GBx1.out : Below w0.heap.size w0 wx2)); replace HK := aM (Kept.of_grown (S := (fun k_ => P0_ k_)) hg (by repeat (first | (with_reducible first | exact HK.out | apply Kept.alloc | apply Kept.drewN | apply Kept.drew) | exact HK.out)) (fun k_ e_ => (HO_y1.out.1 k_ e_))); replace HO_y1 := aM (hp_); clear hg hw hp_; have px3 : 0 ≤ (x5_1 : Int) := odA; have qx3 : (x5_1 : Int) < ((x0_1.length : Int) : Int) := odA; obtain ⟨cex5, hclx5, hMx5, hccx5, hfrx5⟩ := Kd.R_elem HO_y1.out z23 (x5_1 : Int) px3 qx3; obtain rfl := k23_openM hMx5; have hxx9 : wx2.cell? ⟨gox1, (x5_1 : Int).toNat * 3, none⟩ = some (.int .i64 ((rd_T23 y102 x5_1).f0)) := hccx5 0 _ rfl; have hxx10 : wx2.cell? ⟨gox1, (x5_1 : Int).toNat * 3 + 1, none⟩ = some (.int .i64 ((rd_T23 y102 x5_1).f1)) := hccx5 1 _ rfl; have hxx11 : wx2.cell? ⟨gox1, (x5_1 : Int).toNat * 3 + 2, none⟩ = some (.int .i64 ((rd_T23 y102 x5_1).f2)) := hccx5 2 _ rfl; have hfx9 : wx2.frozen? ⟨gox1, (x5_1 : Int).toNat * 3, none⟩ = false := hfrx5 0; have hfx10 : wx2.frozen? ⟨gox1, (x5_1 : Int).toNat * 3 + 1, none⟩ = false := hfrx5 1; have hfx11 : wx2.frozen? ⟨gox1, (x5_1 : Int).toNat * 3 + 2, none⟩ = false := hfrx5 2; clear hclx5 hccx5 hfrx5 hMx5; replace px3 := eq_true px3; replace qx3 := eq_true qx3; have HXx3 := aM (show Kd.R k23 23 wx2 w0.heap.size (fun k_ => (P0_ k_ ∨ w.heap.size ≤ k_)) (.slice (some ⟨gox1, 0, none⟩) x0_1.length cox1) y102 from (rX HO_y1.out)); obtain ⟨cex6, hclx6, hMx6, hccx6, hfrx6⟩ := Kd.R_elem HXx3.out z23 (x5_1 : Int) (odA) (by have h_ : (x5_1 : Int) < ((x0_1.length : Int) : Int) := odA; first | exact h_ | (have e_ := (Kd.R_reads' HO_y1.out).1; omega) | simpa using h_); obtain rfl := k23_openM hMx6; have HPx3 := Kd.R_seg HXx3.out (x5_1 : Int) (odA) (by have h_ : (x5_1 : Int) < ((x0_1.length : Int) : Int) := odA; first | exact h_ | (have e_ := (Kd.R_reads' HO_y1.out).1; omega) | simpa using h_) (seg := [.int .i64 (wrap64 ((wrap64 (x1_1 + 1)) + 1))]) (j := 2) hclx6 hccx6 (show 3 ≤ 3 from by decide) (x' := (⟨(rd_T23 y102 x5_1).f0, (rd_T23 y102 x5_1).f1, wrap64 ((wrap64 (x1_1 + 1)) + 1)⟩ : S23)) (k23_mkM _ _ _ (⟨(rd_T23 y102 x5_1).f0, (rd_T23 y102 x5_1).f1, wrap64 ((wrap64 (x1_1 + 1)) + 1)⟩ : S23) ) (fun _ hk => hk); have hxx12 := hccx6 2 _ rfl; (try simp only [show (k23).sz = 3 from rfl, Nat.mul_one, Nat.add_zero] at hxx12); have hfx12 := hfrx6 2; (try simp only [show (k23).sz = 3 from rfl, Nat.mul_one, Nat.add_zero] at hfx12); clear hclx6 hccx6 hfrx6 hMx6) | ((with_reducible refine gate_store (t := 3) (p := 30) rfl ?_); refine store_event (t := 3) (p := 30) (v := ?vo_wx3) (w1 := (wx2.setCell ⟨gox1, (x5_1 : Int).toNat * 3 + 2, none⟩ (.int .i64 (wrap64 ((wrap64 (x1_1 + 1)) + 1))))) ?hg ?ho ?hn ?hr ?_; (case ho => rfl); (case hg => rfl); (case hn => rfl); (case hr => first | (go_simp; done) | (go_simp; rfl)); intro wx3 hw; have hg : wx2.grownBy wx3 (some gox1) := (by rw [hw]; exact HPx3.2); have hp_ : Kd.R k23 23 wx3 w0.heap.size (fun k_ => (P0_ k_ ∨ w.heap.size ≤ k_)) (.slice (some ⟨gox1, 0, none⟩) x0_1.length cox1) y103 := (by rw [hw, Ny103.out]; exact HPx3.1); clear HPx3; replace HB := aM ((by rw [hw]; exact below_set (HB.out) GBx1.out : Below w0.heap.size w0 wx3)); replace HK := aM (Kept.of_grown (S := (fun k_ => P0_ k_)) hg (by repeat (first | (with_reducible first | exact HK.out | apply Kept.alloc | apply Kept.drewN | apply Kept.drew) | exact HK.out)) (fun k_ e_ => (HO_y1.out.1 k_ e_))); replace HO_y1 := aM (hp_); clear hg hw hp_))
      go_roundg k1
      case measure => have := HKy1.out; omega
      case rel => exact ⟨(y103), (wrap64 ((wrap64 ((wrap64 (x1_1 + 1)) + 1)) + 1)), (wrap64 (x5_1 + 1)), rS, rS, H', ⟨by have := HKy1.out; omega⟩, ⟨(rX HO_y1.out)⟩, ⟨by repeat (first | (with_reducible first | exact HK.out | apply Kept.alloc | apply Kept.drewN | apply Kept.drew) | exact HK.out)⟩, ⟨(hX HB.out)⟩⟩
def laws_heldOpS.l0 : Nat → List (S23) → Int → Int → Option (Int)
  | 0, _, _, _ => none
  | k + 1, x0, x1, x5 => if x5 < (x0.length : Int) then (if 0 ≤ x5 then (if ((rd_T23 x0 x5).f0) = x1 then (if ((rd_T23 x0 x5).f1) = (wrap64 (x1 + 1)) then (if ((rd_T23 x0 x5).f2) = (wrap64 ((wrap64 (x1 + 1)) + 1)) then (laws_heldOpS.l0 k x0 (wrap64 ((wrap64 ((wrap64 (x1 + 1)) + 1)) + 1)) (wrap64 (x5 + 1))) else (some (-1))) else (some (-1))) else (some (-1))) else (none)) else (some x1)
def laws_heldOpS.f (k : Nat) (l0 : List (S23)) (a1 : Int) : Option (Int) := laws_heldOpS.l0 k l0 a1 0
set_option maxHeartbeats 8000000 in
set_option maxRecDepth 100000 in
theorem laws_heldOpS.calls (k : Nat) (A0 : Option Addr) (c0 : Nat) (l0 : List (S23)) (a1 : Int) (r : Int) (w : World) (hr0 : Kd.C k23 w A0 l0.length l0) (hc0 : l0.length ≤ c0) (h : laws_heldOpS.f k l0 a1 = some r) :
    Calls Tryd.prog 13 #[.slice A0 l0.length c0, .int .i64 a1] w fun e w' => e = .returned (.int .i64 r) ∧ Drawn0 w w' := by
  have HR0 := aM hr0
  have HC0 := aM hc0
  clear hr0 hc0
  have H := h
  unfold laws_heldOpS.f at H
  clear h
  have H' := aM H
  clear H
  go_enter Tryd.func13, Tryd.ntmps13
  go_wp2
  go_loopg [1, 5] k (fun kq v1 v5 w' => ∃ (x1_1 : Int) (x5_1 : Int), v1 = .int .i64 x1_1 ∧ v5 = .int .i64 x5_1 ∧ Aside0 (laws_heldOpS.l0 kq l0 x1_1 x5_1 = some r) ∧ Aside0 (kq ≤ k) ∧ Drawn0 w w')
  case atStart => exact ⟨(a1), (0), rS, rS, H', ⟨Nat.le_refl _⟩, dX⟩
  case round =>
    clear H'
    try clear p2
    obtain ⟨x1_1, x5_1, rfl, rfl, HA, HKy1, ⟨my1, rfl⟩⟩ := hrel
    cases gk with
    | zero => exact absurd HA.out (by simp [laws_heldOpS.l0])
    | succ k1 =>
      have H := HA.out
      clear HA
      simp only [laws_heldOpS.l0] at H
      by_cases c3 : x5_1 < (l0.length : Int)
      case neg =>
        rw [if_neg c3] at H
        have c3b0 := decide_eq_false c3
        clear c3
        obtain rfl := sI H
        go_wp2
        go_ret
        exact ⟨by first | rfl | (simp; done) | (simp [*]; done), dX⟩
      rw [if_pos c3] at H
      have c3b0 := decide_eq_true c3
      clear c3
      replace H := ifP H; obtain ⟨c4, H⟩ := H
      have c4b0 := decide_eq_true c4
      clear c4
      by_cases c5 : ((rd_T23 l0 x5_1).f0) = x1_1
      case neg =>
        rw [if_neg c5] at H
        obtain ⟨c5b0, c5b1⟩ := eqF c5
        obtain rfl := sI H
        have px1 : 0 ≤ (x5_1 : Int) := odA
        have qx1 : x5_1 < (l0.length : Int) := odA
        obtain ⟨adx1, ex1, hxx1, hxx2, hxx3⟩ := at_T23 HR0.out x5_1 px1 qx1
        cases ex1
        replace px1 := eq_true px1
        replace qx1 := eq_true qx1
        go_wp2
        go_ret
        exact ⟨by first | rfl | (simp; done) | (simp [*]; done), dX⟩
      rw [if_pos c5] at H
      obtain ⟨c5b0, c5b1⟩ := eqT c5
      clear c5
      by_cases c6 : ((rd_T23 l0 x5_1).f1) = (wrap64 (x1_1 + 1))
      case neg =>
        rw [if_neg c6] at H
        obtain ⟨c6b0, c6b1⟩ := eqF c6
        obtain rfl := sI H
        have px1 : 0 ≤ (x5_1 : Int) := odA
        have qx1 : x5_1 < (l0.length : Int) := odA
        obtain ⟨adx1, ex1, hxx1, hxx2, hxx3⟩ := at_T23 HR0.out x5_1 px1 qx1
        cases ex1
        replace px1 := eq_true px1
        replace qx1 := eq_true qx1
        have px2 : 0 ≤ (x5_1 : Int) := odA
        have qx2 : x5_1 < (l0.length : Int) := odA
        obtain ⟨adx2, ex2, hxx4, hxx5, hxx6⟩ := at_T23 HR0.out x5_1 px2 qx2
        obtain rfl : adx1 = adx2 := (by injection ex2)
        replace px2 := eq_true px2
        replace qx2 := eq_true qx2
        go_wp2
        go_ret
        exact ⟨by first | rfl | (simp; done) | (simp [*]; done), dX⟩
      rw [if_pos c6] at H
      obtain ⟨c6b0, c6b1⟩ := eqT c6
      clear c6
      by_cases c7 : ((rd_T23 l0 x5_1).f2) = (wrap64 ((wrap64 (x1_1 + 1)) + 1))
      case neg =>
        rw [if_neg c7] at H
        obtain ⟨c7b0, c7b1⟩ := eqF c7
        obtain rfl := sI H
        have px1 : 0 ≤ (x5_1 : Int) := odA
        have qx1 : x5_1 < (l0.length : Int) := odA
        obtain ⟨adx1, ex1, hxx1, hxx2, hxx3⟩ := at_T23 HR0.out x5_1 px1 qx1
        cases ex1
        replace px1 := eq_true px1
        replace qx1 := eq_true qx1
        have px2 : 0 ≤ (x5_1 : Int) := odA
        have qx2 : x5_1 < (l0.length : Int) := odA
        obtain ⟨adx2, ex2, hxx4, hxx5, hxx6⟩ := at_T23 HR0.out x5_1 px2 qx2
        obtain rfl : adx1 = adx2 := (by injection ex2)
        replace px2 := eq_true px2
        replace qx2 := eq_true qx2
        have px3 : 0 ≤ (x5_1 : Int) := odA
        have qx3 : x5_1 < (l0.length : Int) := odA
        obtain ⟨adx3, ex3, hxx7, hxx8, hxx9⟩ := at_T23 HR0.out x5_1 px3 qx3
        obtain rfl : adx1 = adx3 := (by injection ex3)
        replace px3 := eq_true px3
        replace qx3 := eq_true qx3
        go_wp2
        go_ret
        exact ⟨by first | rfl | (simp; done) | (simp [*]; done), dX⟩
      rw [if_pos c7] at H
      obtain ⟨c7b0, c7b1⟩ := eqT c7
      clear c7
      have H' := aM H
      clear H
      have px1 : 0 ≤ (x5_1 : Int) := odA
      have qx1 : x5_1 < (l0.length : Int) := odA
      obtain ⟨adx1, ex1, hxx1, hxx2, hxx3⟩ := at_T23 HR0.out x5_1 px1 qx1
      cases ex1
      replace px1 := eq_true px1
      replace qx1 := eq_true qx1
      have px2 : 0 ≤ (x5_1 : Int) := odA
      have qx2 : x5_1 < (l0.length : Int) := odA
      obtain ⟨adx2, ex2, hxx4, hxx5, hxx6⟩ := at_T23 HR0.out x5_1 px2 qx2
      obtain rfl : adx1 = adx2 := (by injection ex2)
      replace px2 := eq_true px2
      replace qx2 := eq_true qx2
      have px3 : 0 ≤ (x5_1 : Int) := odA
      have qx3 : x5_1 < (l0.length : Int) := odA
      obtain ⟨adx3, ex3, hxx7, hxx8, hxx9⟩ := at_T23 HR0.out x5_1 px3 qx3
      obtain rfl : adx1 = adx3 := (by injection ex3)
      replace px3 := eq_true px3
      replace qx3 := eq_true qx3
      go_wp2
      go_roundg k1
      case measure => have := HKy1.out; omega
      case rel => exact ⟨(wrap64 ((wrap64 ((wrap64 (x1_1 + 1)) + 1)) + 1)), (wrap64 (x5_1 + 1)), rS, rS, H', ⟨by have := HKy1.out; omega⟩, dX⟩
def spec_Split.l0 : Nat → ByteArray → Int → List ByteArray → Int → Int → Option (List ByteArray)
  | 0, _, _, _, _, _ => none
  | k + 1, x0, x1, x5, x6, x7 => if x7 ≤ (x0.size : Int) then (if x7 = (x0.size : Int) then (if 0 ≤ x6 then (if x6 ≤ x7 then (if x5.length < 8796093022208 then (spec_Split.l0 k x0 x1 (x5 ++ [x0.extract (x6 : Int).toNat (x7 : Int).toNat]) (wrap64 (x7 + 1)) (wrap64 (x7 + 1))) else (none)) else (none)) else (none)) else (if 0 ≤ x7 then (if x7 < (x0.size : Int) then (if (bt x0 x7) = x1 then (if 0 ≤ x6 then (if x6 ≤ x7 then (if x5.length < 8796093022208 then (spec_Split.l0 k x0 x1 (x5 ++ [x0.extract (x6 : Int).toNat (x7 : Int).toNat]) (wrap64 (x7 + 1)) (wrap64 (x7 + 1))) else (none)) else (none)) else (none)) else (spec_Split.l0 k x0 x1 x5 x6 (wrap64 (x7 + 1)))) else (none)) else (none))) else (some x5)
def spec_Split.f (k : Nat) (a0 : ByteArray) (a1 : Int) : Option (List ByteArray) := spec_Split.l0 k a0 a1 (([] : List ByteArray)) 0 0
theorem spec_Split.mono_l : ∀ k, (∀ y0 y1 y2 y3 y4, LeO (spec_Split.l0 k y0 y1 y2 y3 y4) (spec_Split.l0 (k + 1) y0 y1 y2 y3 y4))
  | 0 => fun _ _ _ _ _ r h => by simp [spec_Split.l0] at h
  | k + 1 => by
    have ih0 := spec_Split.mono_l k
    · intro y0 y1 y2 y3 y4
      unfold spec_Split.l0
      repeat' first
      | (with_reducible exact ih0 _ _ _ _ _)
      | (with_reducible exact LeO.refl _)
      | (with_reducible exact LeO.none _)
      | (with_reducible refine LeO.ite ?_ ?_)
      | (with_reducible refine LeO.bind ?_ (fun _ => ?_))
      | exact ih0 _ _ _ _ _
      | exact LeO.none _
      | refine LeO.ite ?_ ?_
      | refine LeO.bind ?_ (fun _ => ?_)
theorem spec_Split.mono : ∀ a0 a1 k, LeO (spec_Split.f k a0 a1) (spec_Split.f (k + 1) a0 a1) := by
  intro a0 a1 k
  have ih0 := spec_Split.mono_l k
  unfold spec_Split.f
  repeat' first
      | (with_reducible exact ih0 _ _ _ _ _)
      | (with_reducible exact LeO.refl _)
      | (with_reducible exact LeO.none _)
      | (with_reducible refine LeO.ite ?_ ?_)
      | (with_reducible refine LeO.bind ?_ (fun _ => ?_))
      | exact ih0 _ _ _ _ _
      | exact LeO.none _
      | refine LeO.ite ?_ ?_
      | refine LeO.bind ?_ (fun _ => ?_)
set_option maxHeartbeats 8000000 in
set_option maxRecDepth 100000 in
theorem spec_Split.calls (k : Nat) (a0 : ByteArray) (a1 : Int) (r : List ByteArray) (w : World) (h : spec_Split.f k a0 a1 = some r) :
    Calls Tryd.prog 27 #[.string a0, .int .u8 a1] w fun e w' => ∃ v0_ : Value, e = .returned (v0_) ∧ Kd.R Kd.string 9 w' w.heap.size (fun _ => True) v0_ r ∧ Below w.heap.size w w' := by
  have HB := aM (Below.refl w.heap.size w)
  have H := h
  unfold spec_Split.f at H
  clear h
  obtain ⟨y101, hy101⟩ : ∃ y_ : List ByteArray, y_ = (([] : List ByteArray)) := ⟨_, rfl⟩
  replace H : (spec_Split.l0 k a0 a1 y101 0 0) = some r := yH H hy101
  have Ny101 := aM hy101
  clear hy101
  have H' := aM H
  clear H
  go_enter Tryd.func27, Tryd.ntmps27
  go_wp2_with (first | ((with_reducible refine gate_dst (N := 8) rfl ?_); refine Kd.R_lit Kd.string _ 9 ?hg (N := 8) ?hd (xs := ([] : List ByteArray)) (inner := []) (ok := fun _ => True) (okp := fun _ => True) ?hr ?hp (fun _ hk => hk) trivial (Below.refl _ _) (Nat.le_refl _) (by simp) ?_; (case hd => rfl); (case hg => rfl); (case hr => first | (go_simp; done) | (go_simp; rfl)); (case hp => exact (Reps.none _ _)); intro vz1 wz1 hoz1 hb hg_ hnew_; clear hg_ hnew_; (first | rw [← Ny101.out] at hoz1 | (simp only [Int.reduceToNat] at hoz1; rw [← Ny101.out] at hoz1)); have HOz1 := aM (Kd.R_lower hoz1 (below_size (hX HB.out))); replace HB := aS HB hb; clear hb hoz1))
  go_loopg [5, 6, 7] k (fun kq v5 v6 v7 w' => ∃ (x5_1 : List ByteArray) (x6_1 : Int) (x7_1 : Int), v6 = .int .i64 x6_1 ∧ v7 = .int .i64 x7_1 ∧ Aside0 (spec_Split.l0 kq a0 a1 x5_1 x6_1 x7_1 = some r) ∧ Aside0 (kq ≤ k) ∧ Aside0 (Kd.R Kd.string 9 w' w.heap.size (fun _ => True) v5 x5_1) ∧ Aside0 (Below w.heap.size w w'))
  case atStart => exact ⟨(y101), (0), (0), rS, rS, H', ⟨Nat.le_refl _⟩, ⟨(rX HOz1.out)⟩, ⟨(hX HB.out)⟩⟩
  case round =>
    clear H'
    try clear p2
    obtain ⟨x5_1, x6_1, x7_1, rfl, rfl, HA, HKy1, HO_y1, HB⟩ := hrel
    cases gk with
    | zero => exact absurd HA.out (by simp [spec_Split.l0])
    | succ k1 =>
      have H := HA.out
      clear HA
      simp only [spec_Split.l0] at H
      by_cases c5 : x7_1 ≤ (a0.size : Int)
      case neg =>
        rw [if_neg c5] at H
        have c5b0 := decide_eq_false c5
        clear c5
        obtain rfl := sI H
        go_wp2
        go_ret
        exact ⟨_, rE, (rX HO_y1.out), (hX HB.out)⟩
      rw [if_pos c5] at H
      have c5b0 := decide_eq_true c5
      clear c5
      by_cases c6 : x7_1 = (a0.size : Int)
      · rw [if_pos c6] at H
        obtain ⟨c6b0, c6b1⟩ := eqT c6
        clear c6
        replace H := ifP H; obtain ⟨c7, H⟩ := H
        have c7b0 := eq_true c7
        have c7b1 := decide_eq_true c7
        clear c7
        replace H := ifP H; obtain ⟨c8, H⟩ := H
        have c8b0 := eq_true c8
        have c8b1 := decide_eq_true c8
        clear c8
        have c9b0 := eq_true (odA : x7_1 ≤ (a0.size : Int))
        replace H := ifP H; obtain ⟨c10, H⟩ := H
        have LMc10 := aM c10
        clear c10
        obtain ⟨y104, hy104⟩ : ∃ y_ : List ByteArray, y_ = (x5_1 ++ [a0.extract (x6_1 : Int).toNat (x7_1 : Int).toNat]) := ⟨_, rfl⟩
        replace H : (spec_Split.l0 k1 a0 a1 y104 (wrap64 (x7_1 + 1)) (wrap64 (x7_1 + 1))) = some r := yH H hy104
        have Ny104 := aM hy104
        clear hy104
        have H' := aM H
        clear H
        go_wp2_with (first | ((with_reducible refine gate_builtin (b := .append) (xs := #[.tmp 26, .tmp 31]) rfl ?_); at_builtin; refine Kd.R_append Kd.string (w0 := w) w.heap.size rfl (.tmp 26) (.tmp 31) 46 9 (.string ⟨#[]⟩) 16 rfl Tryd.underlying46 info9 rfl (by decide) (by omega) u5 x5_1 (a0.extract (x6_1 : Int).toNat (x7_1 : Int).toNat) [.string (a0.extract (x6_1 : Int).toNat (x7_1 : Int).toNat)] (fun _ => True) (fun _ => False) rfl rfl ?aP (fun _ hk => hk.elim) ?aF ?aO ?aB ?aS ?aL ?_; (case aP => exact rfl); (case aB => exact (hX HB.out)); (case aF => exact (fun _ _ => trivial)); (case aO => exact (rX HO_y1.out)); (case aS => exact (below_size (hX HB.out))); (case aL => have := LMc10.out; omega); intro vx1 wx1 ho hb hg hat; rw [← Ny104.out] at ho; have HOx1 := aM (ho); replace HB := aM (hb); clear HO_y1; clear ho hb hg hat))
        go_roundg k1
        case measure => have := HKy1.out; omega
        case rel => exact ⟨(y104), (wrap64 (x7_1 + 1)), (wrap64 (x7_1 + 1)), rS, rS, H', ⟨by have := HKy1.out; omega⟩, ⟨(rX HOx1.out)⟩, ⟨(hX HB.out)⟩⟩
      rw [if_neg c6] at H
      obtain ⟨c6b0, c6b1⟩ := eqF c6
      replace H := ifP H; obtain ⟨c12, H⟩ := H
      have c12b0 := decide_eq_true c12
      clear c12
      replace H := ifP H; obtain ⟨c13, H⟩ := H
      have c13b0 := decide_eq_true c13
      clear c13
      by_cases c15 : (bt a0 x7_1) = a1
      case neg =>
        rw [if_neg c15] at H
        obtain ⟨c15b0, c15b1⟩ := eqF c15
        have H' := aM H
        clear H
        have px1 : 0 ≤ (x7_1 : Int) := odA
        have qx1 : x7_1 < (a0.size : Int) := odA
        have hxx1 := bt_at a0 x7_1
        replace px1 := eq_true px1
        replace qx1 := eq_true qx1
        go_wp2
        go_roundg k1
        case measure => have := HKy1.out; omega
        case rel => exact ⟨(x5_1), (x6_1), (wrap64 (x7_1 + 1)), rS, rS, H', ⟨by have := HKy1.out; omega⟩, ⟨(rX HO_y1.out)⟩, ⟨(hX HB.out)⟩⟩
      rw [if_pos c15] at H
      obtain ⟨c15b0, c15b1⟩ := eqT c15
      clear c15
      replace H := ifP H; obtain ⟨c16, H⟩ := H
      have c16b0 := eq_true c16
      have c16b1 := decide_eq_true c16
      clear c16
      replace H := ifP H; obtain ⟨c17, H⟩ := H
      have c17b0 := eq_true c17
      have c17b1 := decide_eq_true c17
      clear c17
      have c18b0 := eq_true (odA : x7_1 ≤ (a0.size : Int))
      replace H := ifP H; obtain ⟨c19, H⟩ := H
      have LMc19 := aM c19
      clear c19
      obtain ⟨y107, hy107⟩ : ∃ y_ : List ByteArray, y_ = (x5_1 ++ [a0.extract (x6_1 : Int).toNat (x7_1 : Int).toNat]) := ⟨_, rfl⟩
      replace H : (spec_Split.l0 k1 a0 a1 y107 (wrap64 (x7_1 + 1)) (wrap64 (x7_1 + 1))) = some r := yH H hy107
      have Ny107 := aM hy107
      clear hy107
      have H' := aM H
      clear H
      have px1 : 0 ≤ (x7_1 : Int) := odA
      have qx1 : x7_1 < (a0.size : Int) := odA
      have hxx1 := bt_at a0 x7_1
      replace px1 := eq_true px1
      replace qx1 := eq_true qx1
      go_wp2_with (first | ((with_reducible refine gate_builtin (b := .append) (xs := #[.tmp 26, .tmp 31]) rfl ?_); at_builtin; refine Kd.R_append Kd.string (w0 := w) w.heap.size rfl (.tmp 26) (.tmp 31) 46 9 (.string ⟨#[]⟩) 16 rfl Tryd.underlying46 info9 rfl (by decide) (by omega) u5 x5_1 (a0.extract (x6_1 : Int).toNat (x7_1 : Int).toNat) [.string (a0.extract (x6_1 : Int).toNat (x7_1 : Int).toNat)] (fun _ => True) (fun _ => False) rfl rfl ?aP (fun _ hk => hk.elim) ?aF ?aO ?aB ?aS ?aL ?_; (case aP => exact rfl); (case aB => exact (hX HB.out)); (case aF => exact (fun _ _ => trivial)); (case aO => exact (rX HO_y1.out)); (case aS => exact (below_size (hX HB.out))); (case aL => have := LMc19.out; omega); intro vx1 wx1 ho hb hg hat; rw [← Ny107.out] at ho; have HOx1 := aM (ho); replace HB := aM (hb); clear HO_y1; clear ho hb hg hat))
      go_roundg k1
      case measure => have := HKy1.out; omega
      case rel => exact ⟨(y107), (wrap64 (x7_1 + 1)), (wrap64 (x7_1 + 1)), rS, rS, H', ⟨by have := HKy1.out; omega⟩, ⟨(rX HOx1.out)⟩, ⟨(hX HB.out)⟩⟩
end Go.Proofs.YtafcfhgdblefgaaDoor.P
namespace Go.Proofs.YtafcfhgdblefgaaDoorZ
open Go.RowKit Go.Proofs.YtafcfhgdblefgaaDoorW.PrintWords Go.Proofs.YtafcfhgdblefgaaDoorW.PrintLast
theorem now_ {P : Program} {ops : Array Oper} {Q : Exit → Act → World → Prop} {md : Region.Mode} {S : World → Prop} {ds : List Nat} {i : Nat} {N : Option Tmp} {oi : Oper} {v : Value} {fuel : Nat} {l : Array Bool} {a : Act} {w : World} (l' : Array Bool) (hi : ops[i]? = some oi) (hN : oi.dst = N)
    (hc : readyB md ops l l' i = true) (hd : i ∉ ds) (hg : oi.guard = none) (hrun : (execOp a.eval oi).run P w = .ok (.value v) w) (hS : S w) {a' : Act} (ha : a.put N v = a')
    (h : wpAnyLast P md ops Q S ds fuel l' a' w) : wpAnyLast P md ops Q S ds (fuel + 1) l a w := by
  subst ha
  refine one_ l' hi hN hc hd (fun K hK => ?_)
  subst hN
  have hk := hK.out _ _ hS (fun _ => h)
  have hw : Region.wanted oi (yielded ops a.tmps) = true := by simp [Region.wanted, hg]
  rw [if_pos hw]
  unfold Oper.wp
  rw [hrun]
  exact hk
end Go.Proofs.YtafcfhgdblefgaaDoorZ
namespace Go.Proofs.YtafcfhgdblefgaaDoor.P
open Go.Proofs.YtafcfhgdblefgaaDoorZ Go.RowKit Go.Proofs.YtafcfhgdblefgaaDoorW.PrintWords Go.Proofs.YtafcfhgdblefgaaDoorW.PrintLast Go.Proofs.YtafcfhgdblefgaaDoorW.PrintMore
attribute [local go_sem] max2_int min2_int max_two min_two max_three min_three max_four min_four   -- for this text's walks alone
def spec_l14Names.f  : Option (List ByteArray) := some (([(⟨#[]⟩ : ByteArray), (⟨#[112, 117, 116]⟩ : ByteArray), (⟨#[115, 101, 116]⟩ : ByteArray), (⟨#[100, 101, 108]⟩ : ByteArray), (⟨#[103, 101, 116]⟩ : ByteArray), (⟨#[102, 105, 110, 100]⟩ : ByteArray), (⟨#[99, 111, 117, 110, 116]⟩ : ByteArray), (⟨#[115, 99, 97, 110]⟩ : ByteArray), (⟨#[111, 112, 101, 110]⟩ : ByteArray), (⟨#[109, 97, 107, 101]⟩ : ByteArray), (⟨#[118, 105, 97]⟩ : ByteArray)] : List ByteArray))
set_option maxHeartbeats 8000000 in
set_option maxRecDepth 100000 in
theorem spec_l14Names.calls  (r : List ByteArray) (w : World) (h : spec_l14Names.f  = some r) :
    Calls Tryd.prog 28 #[] w fun e w' => ∃ v0_ : Value, e = .returned (v0_) ∧ Kd.R Kd.string 9 w' w.heap.size (fun _ => True) v0_ r ∧ Below w.heap.size w w' := by
  have HB := aM (Below.refl w.heap.size w)
  have H := h
  unfold spec_l14Names.f at H
  clear h
  obtain ⟨y101, hy101⟩ : ∃ y_ : List ByteArray, y_ = (([(⟨#[]⟩ : ByteArray), (⟨#[112, 117, 116]⟩ : ByteArray), (⟨#[115, 101, 116]⟩ : ByteArray), (⟨#[100, 101, 108]⟩ : ByteArray), (⟨#[103, 101, 116]⟩ : ByteArray), (⟨#[102, 105, 110, 100]⟩ : ByteArray), (⟨#[99, 111, 117, 110, 116]⟩ : ByteArray), (⟨#[115, 99, 97, 110]⟩ : ByteArray), (⟨#[111, 112, 101, 110]⟩ : ByteArray), (⟨#[109, 97, 107, 101]⟩ : ByteArray), (⟨#[118, 105, 97]⟩ : ByteArray)] : List ByteArray)) := ⟨_, rfl⟩
  replace H : (some y101) = some r := yH H hy101
  have Ny101 := aM hy101
  clear hy101
  obtain rfl := sI H
  go_enter Tryd.func28, Tryd.ntmps28
  go_wp2_with (first | ((with_reducible refine gate_dst (N := 1) rfl ?_); refine Kd.R_lit Kd.string _ 9 ?hg (N := 1) ?hd (xs := ([(⟨#[]⟩ : ByteArray), (⟨#[112, 117, 116]⟩ : ByteArray), (⟨#[115, 101, 116]⟩ : ByteArray), (⟨#[100, 101, 108]⟩ : ByteArray), (⟨#[103, 101, 116]⟩ : ByteArray), (⟨#[102, 105, 110, 100]⟩ : ByteArray), (⟨#[99, 111, 117, 110, 116]⟩ : ByteArray), (⟨#[115, 99, 97, 110]⟩ : ByteArray), (⟨#[111, 112, 101, 110]⟩ : ByteArray), (⟨#[109, 97, 107, 101]⟩ : ByteArray), (⟨#[118, 105, 97]⟩ : ByteArray)] : List ByteArray)) (inner := [.string (⟨#[]⟩ : ByteArray), .string (⟨#[112, 117, 116]⟩ : ByteArray), .string (⟨#[115, 101, 116]⟩ : ByteArray), .string (⟨#[100, 101, 108]⟩ : ByteArray), .string (⟨#[103, 101, 116]⟩ : ByteArray), .string (⟨#[102, 105, 110, 100]⟩ : ByteArray), .string (⟨#[99, 111, 117, 110, 116]⟩ : ByteArray), .string (⟨#[115, 99, 97, 110]⟩ : ByteArray), .string (⟨#[111, 112, 101, 110]⟩ : ByteArray), .string (⟨#[109, 97, 107, 101]⟩ : ByteArray), .string (⟨#[118, 105, 97]⟩ : ByteArray)]) (ok := fun _ => True) (okp := fun _ => True) ?hr ?hp (fun _ hk => hk) trivial (Below.refl _ _) (Nat.le_refl _) (by simp) ?_; (case hd => rfl); (case hg => rfl); (case hr => first | (go_simp; done) | (go_simp; rfl)); (case hp => exact (Reps.one (show Kd.M Kd.string _ _ _ (⟨#[]⟩ : ByteArray) [.string (⟨#[]⟩ : ByteArray)] from rfl) (Reps.one (show Kd.M Kd.string _ _ _ (⟨#[112, 117, 116]⟩ : ByteArray) [.string (⟨#[112, 117, 116]⟩ : ByteArray)] from rfl) (Reps.one (show Kd.M Kd.string _ _ _ (⟨#[115, 101, 116]⟩ : ByteArray) [.string (⟨#[115, 101, 116]⟩ : ByteArray)] from rfl) (Reps.one (show Kd.M Kd.string _ _ _ (⟨#[100, 101, 108]⟩ : ByteArray) [.string (⟨#[100, 101, 108]⟩ : ByteArray)] from rfl) (Reps.one (show Kd.M Kd.string _ _ _ (⟨#[103, 101, 116]⟩ : ByteArray) [.string (⟨#[103, 101, 116]⟩ : ByteArray)] from rfl) (Reps.one (show Kd.M Kd.string _ _ _ (⟨#[102, 105, 110, 100]⟩ : ByteArray) [.string (⟨#[102, 105, 110, 100]⟩ : ByteArray)] from rfl) (Reps.one (show Kd.M Kd.string _ _ _ (⟨#[99, 111, 117, 110, 116]⟩ : ByteArray) [.string (⟨#[99, 111, 117, 110, 116]⟩ : ByteArray)] from rfl) (Reps.one (show Kd.M Kd.string _ _ _ (⟨#[115, 99, 97, 110]⟩ : ByteArray) [.string (⟨#[115, 99, 97, 110]⟩ : ByteArray)] from rfl) (Reps.one (show Kd.M Kd.string _ _ _ (⟨#[111, 112, 101, 110]⟩ : ByteArray) [.string (⟨#[111, 112, 101, 110]⟩ : ByteArray)] from rfl) (Reps.one (show Kd.M Kd.string _ _ _ (⟨#[109, 97, 107, 101]⟩ : ByteArray) [.string (⟨#[109, 97, 107, 101]⟩ : ByteArray)] from rfl) (Reps.one (show Kd.M Kd.string _ _ _ (⟨#[118, 105, 97]⟩ : ByteArray) [.string (⟨#[118, 105, 97]⟩ : ByteArray)] from rfl) (Reps.none _ _))))))))))))); intro vz1 wz1 hoz1 hb hg_ hnew_; clear hg_ hnew_; (first | rw [← Ny101.out] at hoz1 | (simp only [Int.reduceToNat] at hoz1; rw [← Ny101.out] at hoz1)); have HOz1 := aM (Kd.R_lower hoz1 (below_size (hX HB.out))); replace HB := aS HB hb; clear hb hoz1))
  go_ret
  exact ⟨_, rE, (rX HOz1.out), (hX HB.out)⟩
def spec_l1In.f (a0 : Int) (a1 : Int) (a2 : Int) : Option (Bool) := if a0 ≥ a1 then (some (decide (a0 ≤ a2))) else (some false)
set_option maxHeartbeats 8000000 in
set_option maxRecDepth 100000 in
theorem spec_l1In.calls (a0 : Int) (a1 : Int) (a2 : Int) (r : Bool) (w : World) (h : spec_l1In.f a0 a1 a2 = some r) :
    Calls Tryd.prog 51 #[.int .i64 a0, .int .i64 a1, .int .i64 a2] w fun e w' => e = .returned (.bool r) ∧ Drawn0 w w' := by
  have H := h
  unfold spec_l1In.f at H
  clear h
  go_enter Tryd.func51, Tryd.ntmps51
  by_cases c4 : a0 ≥ a1
  · rw [if_pos c4] at H
    have c4b0 := decide_eq_true c4
    clear c4
    obtain rfl := sI H
    go_wp2
    go_ret
    exact ⟨by first | rfl | (simp; done) | (simp [*]; done), dX⟩
  rw [if_neg c4] at H
  have c4b0 := decide_eq_false c4
  clear c4
  obtain rfl := sI H
  go_wp2
  go_ret
  exact ⟨by first | rfl | (simp; done) | (simp [*]; done), dX⟩
def spec_l4Key.f (a0 : Int) : Option (Bool) := (spec_l1In.f a0 1 4).bind fun t101 => (some t101)
set_option maxHeartbeats 8000000 in
set_option maxRecDepth 100000 in
theorem spec_l4Key.calls (a0 : Int) (r : Bool) (w : World) (h : spec_l4Key.f a0 = some r) :
    Calls Tryd.prog 30 #[.int .i64 a0] w fun e w' => e = .returned (.bool r) ∧ Drawn0 w w' := by
  have H := h
  unfold spec_l4Key.f at H
  clear h
  replace H := bE H; obtain ⟨t101, A2, H⟩ := H
  obtain rfl := sI H
  go_enter Tryd.func30, Tryd.ntmps30
  go_wp2_with (first | (refine goesM 51 4 Tryd.func51 #[.int .i64 a0, .int .i64 1, .int .i64 4] ?_; refine (spec_l1In.calls _ _ _ _ _ A2.out).mono ?_; rintro e w' ⟨rfl, ⟨nd, rfl⟩⟩; refine ⟨_, rfl, ?_⟩))
  go_ret
  exact ⟨by first | rfl | (simp; done) | (simp [*]; done), dX⟩
def spec_l4Val.f (a0 : Int) : Option (Bool) := if a0 = 1 then (some true) else (if a0 = 2 then (some true) else (if a0 = 5 then (some true) else (some (a0 == 10))))
set_option maxHeartbeats 8000000 in
set_option maxRecDepth 100000 in
theorem spec_l4Val.calls (a0 : Int) (r : Bool) (w : World) (h : spec_l4Val.f a0 = some r) :
    Calls Tryd.prog 47 #[.int .i64 a0] w fun e w' => e = .returned (.bool r) ∧ Drawn0 w w' := by
  have H := h
  unfold spec_l4Val.f at H
  clear h
  go_enter Tryd.func47, Tryd.ntmps47
  by_cases c2 : a0 = 1
  · rw [if_pos c2] at H
    obtain ⟨c2b0, c2b1⟩ := eqT c2
    clear c2
    obtain rfl := sI H
    go_wp2
    go_ret
    exact ⟨by first | rfl | (simp; done) | (simp [*]; done), dX⟩
  rw [if_neg c2] at H
  obtain ⟨c2b0, c2b1⟩ := eqF c2
  by_cases c3 : a0 = 2
  · rw [if_pos c3] at H
    obtain ⟨c3b0, c3b1⟩ := eqT c3
    clear c3
    obtain rfl := sI H
    go_wp2
    go_ret
    exact ⟨by first | rfl | (simp; done) | (simp [*]; done), dX⟩
  rw [if_neg c3] at H
  obtain ⟨c3b0, c3b1⟩ := eqF c3
  by_cases c4 : a0 = 5
  case neg =>
    rw [if_neg c4] at H
    obtain ⟨c4b0, c4b1⟩ := eqF c4
    obtain rfl := sI H
    go_wp2
    go_ret
    exact ⟨by first | rfl | (simp; done) | (simp [*]; done), dX⟩
  rw [if_pos c4] at H
  obtain ⟨c4b0, c4b1⟩ := eqT c4
  clear c4
  obtain rfl := sI H
  go_wp2
  go_ret
  exact ⟨by first | rfl | (simp; done) | (simp [*]; done), dX⟩
def spec_KeyOk.f (a0 : Int) : Option (Bool) := (spec_l1In.f a0 0 3).bind fun t101 => (some t101)
set_option maxHeartbeats 8000000 in
set_option maxRecDepth 100000 in
theorem spec_KeyOk.calls (a0 : Int) (r : Bool) (w : World) (h : spec_KeyOk.f a0 = some r) :
    Calls Tryd.prog 56 #[.int .i64 a0] w fun e w' => e = .returned (.bool r) ∧ Drawn0 w w' := by
  have H := h
  unfold spec_KeyOk.f at H
  clear h
  replace H := bE H; obtain ⟨t101, A2, H⟩ := H
  obtain rfl := sI H
  go_enter Tryd.func56, Tryd.ntmps56
  go_wp2_with (first | (refine goesM 51 4 Tryd.func51 #[.int .i64 a0, .int .i64 0, .int .i64 3] ?_; refine (spec_l1In.calls _ _ _ _ _ A2.out).mono ?_; rintro e w' ⟨rfl, ⟨nd, rfl⟩⟩; refine ⟨_, rfl, ?_⟩))
  go_ret
  exact ⟨by first | rfl | (simp; done) | (simp [*]; done), dX⟩
def spec_ValOk.f (a0 : Int) : Option (Bool) := (spec_l1In.f a0 1 6).bind fun t101 => (some t101)
set_option maxHeartbeats 8000000 in
set_option maxRecDepth 100000 in
theorem spec_ValOk.calls (a0 : Int) (r : Bool) (w : World) (h : spec_ValOk.f a0 = some r) :
    Calls Tryd.prog 57 #[.int .i64 a0] w fun e w' => e = .returned (.bool r) ∧ Drawn0 w w' := by
  have H := h
  unfold spec_ValOk.f at H
  clear h
  replace H := bE H; obtain ⟨t101, A2, H⟩ := H
  obtain rfl := sI H
  go_enter Tryd.func57, Tryd.ntmps57
  go_wp2_with (first | (refine goesM 51 4 Tryd.func51 #[.int .i64 a0, .int .i64 1, .int .i64 6] ?_; refine (spec_l1In.calls _ _ _ _ _ A2.out).mono ?_; rintro e w' ⟨rfl, ⟨nd, rfl⟩⟩; refine ⟨_, rfl, ?_⟩))
  go_ret
  exact ⟨by first | rfl | (simp; done) | (simp [*]; done), dX⟩
mutual
def spec_OpOk.j0 : Nat → Bool → Int → Int → Int → Option (Bool)
  | 0, _, _, _, _ => none
  | k + 1, x3, x102000, x102001, x102002 => if x102000 = 6 then ((spec_l1In.f x102001 0 2).bind fun t105 => (spec_OpOk.j1 k t105 x102000 x102001 x102002)) else (spec_OpOk.j1 k x3 x102000 x102001 x102002)
def spec_OpOk.j1 : Nat → Bool → Int → Int → Int → Option (Bool)
  | 0, _, _, _, _ => none
  | k + 1, x3, x102000, x102001, x102002 => (spec_l4Val.f x102000).bind fun t106 => (if t106 = true then (if x3 = true then ((spec_ValOk.f x102002).bind fun t107 => (some t107)) else (some false)) else (if x3 = true then (some (x102002 == 0)) else (some false)))
end
def spec_OpOk.f (k : Nat) (a0_0 : Int) (a0_1 : Int) (a0_2 : Int) : Option (Bool) := (spec_l1In.f a0_0 1 10).bind fun t102 => (if t102 = true then ((spec_l4Key.f a0_0).bind fun t103 => (if t103 = true then ((spec_KeyOk.f a0_1).bind fun t104 => (spec_OpOk.j0 k t104 a0_0 a0_1 a0_2)) else (spec_OpOk.j0 k (a0_1 == 0) a0_0 a0_1 a0_2))) else (some false))
theorem spec_OpOk.mono_l : ∀ k, (∀ y0 y1 y2 y3, LeO (spec_OpOk.j0 k y0 y1 y2 y3) (spec_OpOk.j0 (k + 1) y0 y1 y2 y3)) ∧ (∀ y0 y1 y2 y3, LeO (spec_OpOk.j1 k y0 y1 y2 y3) (spec_OpOk.j1 (k + 1) y0 y1 y2 y3))
  | 0 => ⟨fun _ _ _ _ r h => by simp [spec_OpOk.j0] at h, fun _ _ _ _ r h => by simp [spec_OpOk.j1] at h⟩
  | k + 1 => by
    obtain ⟨ih0, ih1⟩ := spec_OpOk.mono_l k
    refine ⟨?_, ?_⟩
    · intro y0 y1 y2 y3
      unfold spec_OpOk.j0
      repeat' first
      | (with_reducible exact ih0 _ _ _ _)
      | (with_reducible exact ih1 _ _ _ _)
      | (with_reducible exact LeO.refl _)
      | (with_reducible exact LeO.none _)
      | (with_reducible refine LeO.ite ?_ ?_)
      | (with_reducible refine LeO.bind ?_ (fun _ => ?_))
      | exact ih0 _ _ _ _
      | exact ih1 _ _ _ _
      | exact LeO.none _
      | refine LeO.ite ?_ ?_
      | refine LeO.bind ?_ (fun _ => ?_)
    · intro y0 y1 y2 y3
      unfold spec_OpOk.j1
      repeat' first
      | (with_reducible exact ih0 _ _ _ _)
      | (with_reducible exact ih1 _ _ _ _)
      | (with_reducible exact LeO.refl _)
      | (with_reducible exact LeO.none _)
      | (with_reducible refine LeO.ite ?_ ?_)
      | (with_reducible refine LeO.bind ?_ (fun _ => ?_))
      | exact ih0 _ _ _ _
      | exact ih1 _ _ _ _
      | exact LeO.none _
      | refine LeO.ite ?_ ?_
      | refine LeO.bind ?_ (fun _ => ?_)
theorem spec_OpOk.mono : ∀ a0 a1 a2 k, LeO (spec_OpOk.f k a0 a1 a2) (spec_OpOk.f (k + 1) a0 a1 a2) := by
  intro a0 a1 a2 k
  obtain ⟨ih0, ih1⟩ := spec_OpOk.mono_l k
  unfold spec_OpOk.f
  repeat' first
      | (with_reducible exact ih0 _ _ _ _)
      | (with_reducible exact ih1 _ _ _ _)
      | (with_reducible exact LeO.refl _)
      | (with_reducible exact LeO.none _)
      | (with_reducible refine LeO.ite ?_ ?_)
      | (with_reducible refine LeO.bind ?_ (fun _ => ?_))
      | exact ih0 _ _ _ _
      | exact ih1 _ _ _ _
      | exact LeO.none _
      | refine LeO.ite ?_ ?_
      | refine LeO.bind ?_ (fun _ => ?_)
set_option maxHeartbeats 8000000 in
set_option maxRecDepth 100000 in
theorem spec_OpOk.calls (k : Nat) (a0_0 : Int) (a0_1 : Int) (a0_2 : Int) (r : Bool) (w : World) (h : spec_OpOk.f k a0_0 a0_1 a0_2 = some r) :
    Calls Tryd.prog 31 #[.agg #[.int .i64 a0_0, .int .i64 a0_1, .int .i64 a0_2]] w fun e w' => e = .returned (.bool r) ∧ Below w.heap.size w w' := by
  have hu23 := Tryd.underlying23
  have HB := aM (Below.refl w.heap.size w)
  have H := h
  unfold spec_OpOk.f at H
  clear h
  replace H := bE H; obtain ⟨t102, A2, H⟩ := H
  go_enter Tryd.func31, Tryd.ntmps31
  by_cases c3 : t102 = true
  case neg =>
    replace c3 := Bool.eq_false_iff.mpr c3
    subst c3
    rw [if_neg nft] at H
    obtain rfl := sI H
    go_wp2_with (first | (refine boxE 1 #[.int .i64 a0_0, .int .i64 a0_1, .int .i64 a0_2] 23 ?_; intro gbz1 hg wz1 hbox hb; have BKz1 := aM (hbox); have GWz1 := aG hg HB; have GEz1 := aG hg HB; replace HB := aS HB hb; clear hb hbox hg; obtain ⟨hczz1, hczz2, hczz3, hfzz1, hfzz2, hfzz3⟩ := cZ3 BKz1.out) | (refine goesM 51 6 Tryd.func51 #[.int .i64 a0_0, .int .i64 1, .int .i64 10] ?_; refine (spec_l1In.calls _ _ _ _ _ A2.out).mono ?_; rintro e w' ⟨rfl, ⟨nd, rfl⟩⟩; refine ⟨_, rfl, ?_⟩))
    go_ret
    exact ⟨rE, (hX HB.out)⟩
  subst c3
  rw [if_pos rfl] at H
  replace H := bE H; obtain ⟨t103, A4, H⟩ := H
  have HC5 := aM H
  clear H
  go_upto_if 13 with (first | ((with_reducible refine gate_dst (N := 1) rfl ?_); refine boxE 1 #[.int .i64 a0_0, .int .i64 a0_1, .int .i64 a0_2] 23 ?_; intro gbz1 hg wz1 hbox hb; have BKz1 := aM (hbox); have GWz1 := aG hg HB; have GEz1 := aG hg HB; replace HB := aS HB hb; clear hb hbox hg; obtain ⟨hczz1, hczz2, hczz3, hfzz1, hfzz2, hfzz3⟩ := cZ3 BKz1.out) | ((with_reducible refine gate_callee (f := 51) rfl ?_); refine goesM 51 6 Tryd.func51 #[.int .i64 a0_0, .int .i64 1, .int .i64 10] ?_; refine (spec_l1In.calls _ _ _ _ _ A2.out).mono ?_; rintro e w' ⟨rfl, ⟨nd, rfl⟩⟩; refine ⟨_, rfl, ?_⟩) | ((with_reducible refine gate_callee (f := 30) rfl ?_); refine goesM 30 13 Tryd.func30 #[.int .i64 a0_0] ?_; refine (spec_l4Key.calls _ _ _ A4.out).mono ?_; rintro e w' ⟨rfl, ⟨nd, rfl⟩⟩; refine ⟨_, rfl, ?_⟩))
  (try simp only [Act.put, List.setIfInBounds_toArray, List.set_cons_zero, List.set_cons_succ])
  go_cut [3] (fun vz1 wc => ∃ (kq : Nat) (x3_4 : Bool), vz1 = .bool x3_4 ∧ Aside0 (spec_OpOk.j0 kq x3_4 a0_0 a0_1 a0_2 = some r) ∧ Aside0 (kq ≤ k) ∧ Aside0 (wc.heap[gbz1]? = some (.cells #[.int .i64 a0_0, .int .i64 a0_1, .int .i64 a0_2] 23 (0, 0))) ∧ Aside0 (Below w.heap.size w wc))
  case first =>
    have H := HC5.out
    clear HC5
    by_cases c8 : t103 = true
    case neg =>
      replace c8 := Bool.eq_false_iff.mpr c8
      subst c8
      rw [if_neg nft] at H
      have H' := aM H
      clear H
      go_wp2
      go_meet
      case rel => exact ⟨_, ((a0_1 == 0)), rS, H', ⟨by first | omega | exact Nat.le_refl _⟩, ⟨(bX BKz1.out)⟩, ⟨(hX HB.out)⟩⟩
    subst c8
    rw [if_pos rfl] at H
    replace H := bE H; obtain ⟨t104, A9, H⟩ := H
    have H' := aM H
    clear H
    obtain ⟨hczy1, hczy2, hczy3, hfzy1, hfzy2, hfzy3⟩ := cZ3 BKz1.out
    go_wp2_with (first | (refine goesM 56 16 Tryd.func56 #[.int .i64 a0_1] ?_; refine (spec_KeyOk.calls _ _ _ A9.out).mono ?_; rintro e w' ⟨rfl, ⟨nd, rfl⟩⟩; refine ⟨_, rfl, ?_⟩))
    go_meet
    case rel => exact ⟨_, (t104), rS, H', ⟨by first | omega | exact Nat.le_refl _⟩, ⟨(bX BKz1.out)⟩, ⟨(hX HB.out)⟩⟩
  case rest =>
    clear HC5
    try clear p2
    try clear c3
    try clear hczz1 hczz2 hczz3 hfzz1 hfzz2 hfzz3
    obtain ⟨kq, x3_4, rfl, HA, HJy1, BKz1, HB⟩ := hcut
    cases kq with
    | zero => exact absurd HA.out (by simp [spec_OpOk.j0])
    | succ kj4 =>
      have H := HA.out
      clear HA
      simp only [spec_OpOk.j0] at H
      have HC11 := aM H
      clear H
      obtain ⟨hczx1, hczx2, hczx3, hfzx1, hfzx2, hfzx3⟩ := cZ3 BKz1.out
      go_upto_if 19 with (fail)
      go_cut [3] (fun vz1 wc => ∃ (kq : Nat) (x3_10 : Bool), vz1 = .bool x3_10 ∧ Aside0 (spec_OpOk.j1 kq x3_10 a0_0 a0_1 a0_2 = some r) ∧ Aside0 (kq ≤ kj4) ∧ Aside0 (wc.heap[gbz1]? = some (.cells #[.int .i64 a0_0, .int .i64 a0_1, .int .i64 a0_2] 23 (0, 0))) ∧ Aside0 (Below w.heap.size w wc))
      case first =>
        have H := HC11.out
        clear HC11
        by_cases c13 : a0_0 = 6
        case neg =>
          rw [if_neg c13] at H
          obtain ⟨c13b0, c13b1⟩ := eqF c13
          (first | rw [c13b0] | (simp only [i64_w, i32_w]; rw [c13b0]) | skip)
          have H' := aM H
          clear H
          go_wp2
          go_meet
          case rel => exact ⟨_, (x3_4), rS, H', ⟨by have := HJy1.out; first | omega | exact Nat.le_refl _⟩, ⟨(bX BKz1.out)⟩, ⟨(hX HB.out)⟩⟩
        rw [if_pos c13] at H
        obtain ⟨c13b0, c13b1⟩ := eqT c13
        clear c13
        (first | rw [c13b0] | (simp only [i64_w, i32_w]; rw [c13b0]) | skip)
        replace H := bE H; obtain ⟨t105, A14, H⟩ := H
        have H' := aM H
        clear H
        obtain ⟨hczw1, hczw2, hczw3, hfzw1, hfzw2, hfzw3⟩ := cZ3 BKz1.out
        go_wp2_with (first | (refine goesM 51 22 Tryd.func51 #[.int .i64 a0_1, .int .i64 0, .int .i64 2] ?_; refine (spec_l1In.calls _ _ _ _ _ A14.out).mono ?_; rintro e w' ⟨rfl, ⟨nd, rfl⟩⟩; refine ⟨_, rfl, ?_⟩))
        go_meet
        case rel => exact ⟨_, (t105), rS, H', ⟨by have := HJy1.out; first | omega | exact Nat.le_refl _⟩, ⟨(bX BKz1.out)⟩, ⟨(hX HB.out)⟩⟩
      case rest =>
        clear HC11
        try clear p2
        try clear c3
        try clear hczx1 hczx2 hczx3 hfzx1 hfzx2 hfzx3
        try clear hczz1 hczz2 hczz3 hfzz1 hfzz2 hfzz3
        obtain ⟨kq, x3_10, rfl, HA, HJw1, BKz1, HB⟩ := hcut
        cases kq with
        | zero => exact absurd HA.out (by simp [spec_OpOk.j1])
        | succ kj10 =>
          have H := HA.out
          clear HA
          simp only [spec_OpOk.j1] at H
          replace H := bE H; obtain ⟨t106, A16, H⟩ := H
          by_cases c17 : t106 = true
          case neg =>
            replace c17 := Bool.eq_false_iff.mpr c17
            subst c17
            rw [if_neg nft] at H
            obtain ⟨hczv1, hczv2, hczv3, hfzv1, hfzv2, hfzv3⟩ := cZ3 BKz1.out
            go_wp2_with (first | (refine goesM 47 25 Tryd.func47 #[.int .i64 a0_0] ?_; refine (spec_l4Val.calls _ _ _ A16.out).mono ?_; rintro e w' ⟨rfl, ⟨nd, rfl⟩⟩; refine ⟨_, rfl, ?_⟩; refine Stop.out ?_))
            refine ⟨?_⟩
            by_cases c22 : x3_10 = true
            · subst c22
              rw [if_pos rfl] at H
              obtain rfl := sI H
              go_wp2
              go_ret
              exact ⟨rE, (hX HB.out)⟩
            replace c22 := Bool.eq_false_iff.mpr c22
            subst c22
            rw [if_neg nft] at H
            obtain rfl := sI H
            go_wp2
            go_ret
            exact ⟨rE, (hX HB.out)⟩
          subst c17
          rw [if_pos rfl] at H
          obtain ⟨hczv1, hczv2, hczv3, hfzv1, hfzv2, hfzv3⟩ := cZ3 BKz1.out
          go_wp2_with (first | (refine goesM 47 25 Tryd.func47 #[.int .i64 a0_0] ?_; refine (spec_l4Val.calls _ _ _ A16.out).mono ?_; rintro e w' ⟨rfl, ⟨nd, rfl⟩⟩; refine ⟨_, rfl, ?_⟩; refine Stop.out ?_))
          refine ⟨?_⟩
          by_cases c18 : x3_10 = true
          case neg =>
            replace c18 := Bool.eq_false_iff.mpr c18
            subst c18
            rw [if_neg nft] at H
            obtain rfl := sI H
            go_wp2
            go_ret
            exact ⟨rE, (hX HB.out)⟩
          subst c18
          rw [if_pos rfl] at H
          replace H := bE H; obtain ⟨t107, A19, H⟩ := H
          obtain rfl := sI H
          go_wp2_with (first | (go_at_call 57; (with_reducible refine (spec_ValOk.calls _ _ _ A19.out).mono ?_); rintro e w' ⟨rfl, ⟨nd, rfl⟩⟩))
          go_ret
          exact ⟨rE, (hX HB.out)⟩
def spec_Digits.l0 : Nat → Int → Bool → ByteArray → Option (ByteArray)
  | 0, _, _, _ => none
  | k + 1, x0, x3, x4 => if x0 = 0 then (if x3 = true then (if 1 + x4.size ≤ 9223372036854775807 then (some ((⟨#[45]⟩ : ByteArray) ++ x4)) else (none)) else (some x4)) else (if (Int.tmod x0 10) < 0 then ((some (([(wrap64 (48 + (wrap64 (-(Int.tmod x0 10))))) % 256] : List Int) : List Int)).bind fun y101 => (if (strOfNums y101).size + x4.size ≤ 9223372036854775807 then (spec_Digits.l0 k (wrap64 (Int.tdiv x0 10)) x3 ((strOfNums y101) ++ x4)) else (none))) else ((some (([(wrap64 (48 + (Int.tmod x0 10))) % 256] : List Int) : List Int)).bind fun y104 => (if (strOfNums y104).size + x4.size ≤ 9223372036854775807 then (spec_Digits.l0 k (wrap64 (Int.tdiv x0 10)) x3 ((strOfNums y104) ++ x4)) else (none))))
def spec_Digits.f (k : Nat) (a0 : Int) : Option (ByteArray) := if a0 = 0 then (some (⟨#[48]⟩ : ByteArray)) else (spec_Digits.l0 k a0 (decide (a0 < 0)) (⟨#[]⟩ : ByteArray))
theorem spec_Digits.mono_l : ∀ k, (∀ y0 y1 y2, LeO (spec_Digits.l0 k y0 y1 y2) (spec_Digits.l0 (k + 1) y0 y1 y2))
  | 0 => fun _ _ _ r h => by simp [spec_Digits.l0] at h
  | k + 1 => by
    have ih0 := spec_Digits.mono_l k
    · intro y0 y1 y2
      unfold spec_Digits.l0
      repeat' first
      | (with_reducible exact ih0 _ _ _)
      | (with_reducible exact LeO.refl _)
      | (with_reducible exact LeO.none _)
      | (with_reducible refine LeO.ite ?_ ?_)
      | (with_reducible refine LeO.bind ?_ (fun _ => ?_))
      | exact ih0 _ _ _
      | exact LeO.none _
      | refine LeO.ite ?_ ?_
      | refine LeO.bind ?_ (fun _ => ?_)
theorem spec_Digits.mono : ∀ a0 k, LeO (spec_Digits.f k a0) (spec_Digits.f (k + 1) a0) := by
  intro a0 k
  have ih0 := spec_Digits.mono_l k
  unfold spec_Digits.f
  repeat' first
      | (with_reducible exact ih0 _ _ _)
      | (with_reducible exact LeO.refl _)
      | (with_reducible exact LeO.none _)
      | (with_reducible refine LeO.ite ?_ ?_)
      | (with_reducible refine LeO.bind ?_ (fun _ => ?_))
      | exact ih0 _ _ _
      | exact LeO.none _
      | refine LeO.ite ?_ ?_
      | refine LeO.bind ?_ (fun _ => ?_)
set_option maxHeartbeats 8000000 in
set_option maxRecDepth 100000 in
theorem spec_Digits.calls (k : Nat) (a0 : Int) (r : ByteArray) (w : World) (h : spec_Digits.f k a0 = some r) :
    Calls Tryd.prog 46 #[.int .i64 a0] w fun e w' => e = .returned (.string r) ∧ Below w.heap.size w w' := by
  have HB := aM (Below.refl w.heap.size w)
  have H := h
  unfold spec_Digits.f at H
  clear h
  go_enter Tryd.func46, Tryd.ntmps46
  by_cases c2 : a0 = 0
  · rw [if_pos c2] at H
    obtain ⟨c2b0, c2b1⟩ := eqT c2
    clear c2
    obtain rfl := sI H
    go_wp2
    go_ret
    exact ⟨rE, (hX HB.out)⟩
  rw [if_neg c2] at H
  obtain ⟨c2b0, c2b1⟩ := eqF c2
  have H' := aM H
  clear H
  go_wp2
  go_loopg [0, 4] k (fun kq v0 v4 w' => ∃ (x0_1 : Int) (x4_1 : ByteArray), v0 = .int .i64 x0_1 ∧ v4 = .string x4_1 ∧ Aside0 (spec_Digits.l0 kq x0_1 (decide (a0 < 0)) x4_1 = some r) ∧ Aside0 (kq ≤ k) ∧ Aside0 (Below w.heap.size w w'))
  case atStart => exact ⟨(a0), ((⟨#[]⟩ : ByteArray)), rS, rS, H', ⟨Nat.le_refl _⟩, ⟨(hX HB.out)⟩⟩
  case round =>
    clear H'
    try clear c2
    try clear c2b0
    try clear c2b1
    try clear p2
    obtain ⟨x0_1, x4_1, rfl, rfl, HA, HKy1, HB⟩ := hrel
    cases gk with
    | zero => exact absurd HA.out (by simp [spec_Digits.l0])
    | succ k1 =>
      have H := HA.out
      clear HA
      simp only [spec_Digits.l0] at H
      by_cases c3 : x0_1 = 0
      · rw [if_pos c3] at H
        obtain ⟨c3b0, c3b1⟩ := eqT c3
        clear c3
        by_cases c4 : (decide (a0 < 0)) = true
        case neg =>
          rw [if_neg c4] at H
          have c4b0 : (decide (a0 < 0)) = false := by simpa using c4
          (try (have c4b1 : ¬ (a0 < 0) := by simpa using c4))
          clear c4
          obtain rfl := sI H
          go_wp2
          go_ret
          exact ⟨rE, (hX HB.out)⟩
        rw [if_pos c4] at H
        have c4b0 : (decide (a0 < 0)) = true := c4
        (try (have c4b1 : (a0 < 0) := by simpa using c4))
        clear c4
        replace H := ifP H; obtain ⟨c5, H⟩ := H
        have c5b0 := eq_true c5
        have c5b1 := decide_eq_true c5
        try have c5b2 : (9223372036854775807 < 1 + x4_1.size) = False := eq_false (Nat.not_lt.2 c5)
        obtain rfl := sI H
        go_wp2
        go_ret
        exact ⟨rE, (hX HB.out)⟩
      rw [if_neg c3] at H
      obtain ⟨c3b0, c3b1⟩ := eqF c3
      by_cases c6 : (Int.tmod x0_1 10) < 0
      case neg =>
        rw [if_neg c6] at H
        have c6b0 := decide_eq_false c6
        clear c6
        obtain ⟨y104, hy104⟩ : ∃ y_ : List Int, y_ = (([(wrap64 (48 + (Int.tmod x0_1 10))) % 256] : List Int)) := ⟨_, rfl⟩
        replace H : (if (strOfNums y104).size + x4_1.size ≤ 9223372036854775807 then (spec_Digits.l0 k1 (wrap64 (Int.tdiv x0_1 10)) (decide (a0 < 0)) ((strOfNums y104) ++ x4_1)) else (none)) = some r := yH H hy104
        have Ny104 := aM hy104
        clear hy104
        replace H := ifP H; obtain ⟨c11, H⟩ := H
        have c11b0 := eq_true c11
        have c11b1 := decide_eq_true c11
        try have c11b2 : (9223372036854775807 < (strOfNums y104).size + x4_1.size) = False := eq_false (Nat.not_lt.2 c11)
        have H' := aM H
        clear H
        go_wp2_with (first | ((with_reducible refine gate_dst (N := 21) rfl ?_); refine Kd.R_lit (Kd.int .u8) _ 5 ?hg (N := 21) ?hd (xs := ([(wrap64 (48 + (Int.tmod x0_1 10))) % 256] : List Int)) (inner := [.int .u8 ((wrap64 (48 + (Int.tmod x0_1 10))) % 256)]) (ok := fun _ => True) (okp := fun _ => True) ?hr ?hp (fun _ hk => hk) trivial (Below.refl _ _) (Nat.le_refl _) (by simp) ?_; (case hd => rfl); (case hg => rfl); (case hr => first | (go_simp; done) | (go_simp; rfl)); (case hp => exact (Reps.one (show Kd.M (Kd.int .u8) _ _ _ ((wrap64 (48 + (Int.tmod x0_1 10))) % 256) [.int .u8 ((wrap64 (48 + (Int.tmod x0_1 10))) % 256)] from rfl) (Reps.none _ _))); intro vx1 wx1 hox1 hb hg_ hnew_; clear hg_ hnew_; (first | rw [← Ny104.out] at hox1 | (simp only [Int.reduceToNat] at hox1; rw [← Ny104.out] at hox1)); have HOx1 := aM (Kd.R_lower hox1 (below_size (hX HB.out))); replace HB := aS HB hb; clear hb hox1; have hcvx1 := own_string (P := Tryd.prog) Tryd.underlying33 Tryd.underlying5 Tryd.underlying9 (Kd.own_of_R HOx1.out)))
        go_roundg k1
        case measure => have := HKy1.out; omega
        case rel => exact ⟨(wrap64 (Int.tdiv x0_1 10)), ((strOfNums y104) ++ x4_1), rS, rS, H', ⟨by have := HKy1.out; omega⟩, ⟨(hX HB.out)⟩⟩
      rw [if_pos c6] at H
      have c6b0 := decide_eq_true c6
      clear c6
      obtain ⟨y101, hy101⟩ : ∃ y_ : List Int, y_ = (([(wrap64 (48 + (wrap64 (-(Int.tmod x0_1 10))))) % 256] : List Int)) := ⟨_, rfl⟩
      replace H : (if (strOfNums y101).size + x4_1.size ≤ 9223372036854775807 then (spec_Digits.l0 k1 (wrap64 (Int.tdiv x0_1 10)) (decide (a0 < 0)) ((strOfNums y101) ++ x4_1)) else (none)) = some r := yH H hy101
      have Ny101 := aM hy101
      clear hy101
      replace H := ifP H; obtain ⟨c7, H⟩ := H
      have c7b0 := eq_true c7
      have c7b1 := decide_eq_true c7
      try have c7b2 : (9223372036854775807 < (strOfNums y101).size + x4_1.size) = False := eq_false (Nat.not_lt.2 c7)
      have H' := aM H
      clear H
      go_wp2_with (first | ((with_reducible refine gate_dst (N := 21) rfl ?_); refine Kd.R_lit (Kd.int .u8) _ 5 ?hg (N := 21) ?hd (xs := ([(wrap64 (48 + (wrap64 (-(Int.tmod x0_1 10))))) % 256] : List Int)) (inner := [.int .u8 ((wrap64 (48 + (wrap64 (-(Int.tmod x0_1 10))))) % 256)]) (ok := fun _ => True) (okp := fun _ => True) ?hr ?hp (fun _ hk => hk) trivial (Below.refl _ _) (Nat.le_refl _) (by simp) ?_; (case hd => rfl); (case hg => rfl); (case hr => first | (go_simp; done) | (go_simp; rfl)); (case hp => exact (Reps.one (show Kd.M (Kd.int .u8) _ _ _ ((wrap64 (48 + (wrap64 (-(Int.tmod x0_1 10))))) % 256) [.int .u8 ((wrap64 (48 + (wrap64 (-(Int.tmod x0_1 10))))) % 256)] from rfl) (Reps.none _ _))); intro vx1 wx1 hox1 hb hg_ hnew_; clear hg_ hnew_; (first | rw [← Ny101.out] at hox1 | (simp only [Int.reduceToNat] at hox1; rw [← Ny101.out] at hox1)); have HOx1 := aM (Kd.R_lower hox1 (below_size (hX HB.out))); replace HB := aS HB hb; clear hb hox1; have hcvx1 := own_string (P := Tryd.prog) Tryd.underlying33 Tryd.underlying5 Tryd.underlying9 (Kd.own_of_R HOx1.out)))
      go_roundg k1
      case measure => have := HKy1.out; omega
      case rel => exact ⟨(wrap64 (Int.tdiv x0_1 10)), ((strOfNums y101) ++ x4_1), rS, rS, H', ⟨by have := HKy1.out; omega⟩, ⟨(hX HB.out)⟩⟩
mutual
def spec_OpText.j0 : Nat → ByteArray → Bool → Int → Int → Int → Option (ByteArray)
  | 0, _, _, _, _, _ => none
  | k + 1, x3, x19, x102000, x102001, x102002 => if x19 = true then (if x3.size + 1 ≤ 9223372036854775807 then ((spec_Digits.f k x102001).bind fun t108 => (if (x3 ++ (⟨#[32]⟩ : ByteArray)).size + t108.size ≤ 9223372036854775807 then (spec_OpText.j1 k ((x3 ++ (⟨#[32]⟩ : ByteArray)) ++ t108) x102000 x102001 x102002) else (none))) else (none)) else (spec_OpText.j1 k x3 x102000 x102001 x102002)
def spec_OpText.j1 : Nat → ByteArray → Int → Int → Int → Option (ByteArray)
  | 0, _, _, _, _ => none
  | k + 1, x3, x102000, x102001, x102002 => (spec_l4Val.f x102000).bind fun t109 => (if t109 = true then (if x3.size + 1 ≤ 9223372036854775807 then ((spec_Digits.f k x102002).bind fun t110 => (if (x3 ++ (⟨#[32]⟩ : ByteArray)).size + t110.size ≤ 9223372036854775807 then (some ((x3 ++ (⟨#[32]⟩ : ByteArray)) ++ t110)) else (none))) else (none)) else (some x3))
end
def spec_OpText.f (k : Nat) (a0_0 : Int) (a0_1 : Int) (a0_2 : Int) : Option (ByteArray) := (spec_OpOk.f k a0_0 a0_1 a0_2).bind fun t102 => (if t102 = true then ((spec_l14Names.f).bind fun t103 => (if 0 ≤ a0_0 then (if a0_0 < (t103.length : Int) then ((spec_l4Key.f a0_0).bind fun t107 => (if t107 = true then (spec_OpText.j0 k (rdOf ByteArray.empty t103 a0_0) true a0_0 a0_1 a0_2) else (spec_OpText.j0 k (rdOf ByteArray.empty t103 a0_0) (a0_0 == 6) a0_0 a0_1 a0_2))) else (none)) else (none))) else (some (⟨#[110, 111, 110, 101]⟩ : ByteArray)))
theorem spec_OpText.mono_l : ∀ k, (∀ y0 y1 y2 y3 y4, LeO (spec_OpText.j0 k y0 y1 y2 y3 y4) (spec_OpText.j0 (k + 1) y0 y1 y2 y3 y4)) ∧ (∀ y0 y1 y2 y3, LeO (spec_OpText.j1 k y0 y1 y2 y3) (spec_OpText.j1 (k + 1) y0 y1 y2 y3))
  | 0 => ⟨fun _ _ _ _ _ r h => by simp [spec_OpText.j0] at h, fun _ _ _ _ r h => by simp [spec_OpText.j1] at h⟩
  | k + 1 => by
    obtain ⟨ih0, ih1⟩ := spec_OpText.mono_l k
    refine ⟨?_, ?_⟩
    · intro y0 y1 y2 y3 y4
      unfold spec_OpText.j0
      repeat' first
      | (with_reducible exact ih0 _ _ _ _ _)
      | (with_reducible exact ih1 _ _ _ _)
      | (with_reducible exact spec_Digits.mono _ _)
      | (with_reducible exact spec_OpOk.mono _ _ _ _)
      | (with_reducible exact LeO.refl _)
      | (with_reducible exact LeO.none _)
      | (with_reducible refine LeO.ite ?_ ?_)
      | (with_reducible refine LeO.bind ?_ (fun _ => ?_))
      | exact ih0 _ _ _ _ _
      | exact ih1 _ _ _ _
      | exact spec_Digits.mono _ _
      | exact spec_OpOk.mono _ _ _ _
      | exact LeO.none _
      | refine LeO.ite ?_ ?_
      | refine LeO.bind ?_ (fun _ => ?_)
    · intro y0 y1 y2 y3
      unfold spec_OpText.j1
      repeat' first
      | (with_reducible exact ih0 _ _ _ _ _)
      | (with_reducible exact ih1 _ _ _ _)
      | (with_reducible exact spec_Digits.mono _ _)
      | (with_reducible exact spec_OpOk.mono _ _ _ _)
      | (with_reducible exact LeO.refl _)
      | (with_reducible exact LeO.none _)
      | (with_reducible refine LeO.ite ?_ ?_)
      | (with_reducible refine LeO.bind ?_ (fun _ => ?_))
      | exact ih0 _ _ _ _ _
      | exact ih1 _ _ _ _
      | exact spec_Digits.mono _ _
      | exact spec_OpOk.mono _ _ _ _
      | exact LeO.none _
      | refine LeO.ite ?_ ?_
      | refine LeO.bind ?_ (fun _ => ?_)
theorem spec_OpText.mono : ∀ a0 a1 a2 k, LeO (spec_OpText.f k a0 a1 a2) (spec_OpText.f (k + 1) a0 a1 a2) := by
  intro a0 a1 a2 k
  obtain ⟨ih0, ih1⟩ := spec_OpText.mono_l k
  unfold spec_OpText.f
  repeat' first
      | (with_reducible exact ih0 _ _ _ _ _)
      | (with_reducible exact ih1 _ _ _ _)
      | (with_reducible exact spec_Digits.mono _ _)
      | (with_reducible exact spec_OpOk.mono _ _ _ _)
      | (with_reducible exact LeO.refl _)
      | (with_reducible exact LeO.none _)
      | (with_reducible refine LeO.ite ?_ ?_)
      | (with_reducible refine LeO.bind ?_ (fun _ => ?_))
      | exact ih0 _ _ _ _ _
      | exact ih1 _ _ _ _
      | exact spec_Digits.mono _ _
      | exact spec_OpOk.mono _ _ _ _
      | exact LeO.none _
      | refine LeO.ite ?_ ?_
      | refine LeO.bind ?_ (fun _ => ?_)
set_option maxHeartbeats 8000000 in
set_option maxRecDepth 100000 in
theorem spec_OpText.calls (k : Nat) (a0_0 : Int) (a0_1 : Int) (a0_2 : Int) (r : ByteArray) (w : World) (h : spec_OpText.f k a0_0 a0_1 a0_2 = some r) :
    Calls Tryd.prog 21 #[.agg #[.int .i64 a0_0, .int .i64 a0_1, .int .i64 a0_2]] w fun e w' => e = .returned (.string r) ∧ Below w.heap.size w w' := by
  have hu23 := Tryd.underlying23
  have HB := aM (Below.refl w.heap.size w)
  have H := h
  unfold spec_OpText.f at H
  clear h
  replace H := bE H; obtain ⟨t102, A2, H⟩ := H
  go_enter Tryd.func21, Tryd.ntmps21
  go_wp2_with (first | (refine boxE 1 #[.int .i64 a0_0, .int .i64 a0_1, .int .i64 a0_2] 23 ?_; intro gbz1 hg wz1 hbox hb; have BKz1 := aM (hbox); have GWz1 := aG hg HB; have GEz1 := aG hg HB; replace HB := aS HB hb; clear hb hbox hg; obtain ⟨hczz1, hczz2, hczz3, hfzz1, hfzz2, hfzz3⟩ := cZ3 BKz1.out; refine Stop.out ?_))
  refine ⟨?_⟩
  by_cases c3 : t102 = true
  case neg =>
    replace c3 := Bool.eq_false_iff.mpr c3
    subst c3
    rw [if_neg nft] at H
    obtain rfl := sI H
    go_wp2_with (first | (refine goesM 31 5 Tryd.func31 #[.agg #[.int .i64 a0_0, .int .i64 a0_1, .int .i64 a0_2]] ?_; refine (spec_OpOk.calls _ _ _ _ _ _ A2.out).mono ?_; rintro e wz2 ⟨rfl, hb⟩; refine ⟨_, rfl, ?_⟩; replace BKz1 := aB BKz1 hb; replace HB := aS HB hb; clear hb))
    go_ret
    exact ⟨rE, (hX HB.out)⟩
  subst c3
  rw [if_pos rfl] at H
  replace H := bE H; obtain ⟨t103, A4, H⟩ := H
  replace H := ifP H; obtain ⟨c5, H⟩ := H
  have c5b0 := decide_eq_true c5
  clear c5
  replace H := ifP H; obtain ⟨c6, H⟩ := H
  have c6b0 := decide_eq_true c6
  clear c6
  have HC7 := aM H
  clear H
  try go_wp2_with (first | (refine goesM 31 5 Tryd.func31 #[.agg #[.int .i64 a0_0, .int .i64 a0_1, .int .i64 a0_2]] ?_; refine (spec_OpOk.calls _ _ _ _ _ _ A2.out).mono ?_; rintro e wz2 ⟨rfl, hb⟩; refine ⟨_, rfl, ?_⟩; replace BKz1 := aB BKz1 hb; replace HB := aS HB hb; clear hb))
  replace BKz1 := aM (blk_drew BKz1.out)
  replace HB := aM (below_drew1 HB.out)
  refine start_ (n := 6) (S := fun w' => w'.cell? ⟨gbz1, 0, none⟩ = some (.int .i64 a0_0) ∧ w'.cell? ⟨gbz1, 1, none⟩ = some (.int .i64 a0_1) ∧ w'.cell? ⟨gbz1, 2, none⟩ = some (.int .i64 a0_2)) (ds := []) (bm 6 0) (by kernel_rfl) rfl (by kernel_rfl) ⟨cK BKz1.out 0, cK BKz1.out 1, cK BKz1.out 2⟩ (fun hHeld => ?_)
  generalize wz2.drew = wz3 at BKz1 HB hHeld ⊢
  refine pK 1 8 (bm 6 2) ?_
  refine tK 2 9 (bm 6 6) hHeld ?_
  refine oK 0 (some 7) (bm 6 7) (fun K hK => ?_)
  refine goesN Tryd.func28 #[] ?_
  with_reducible refine (spec_l14Names.calls _ _ A4.out).mono ?_
  rintro e wz4 ⟨vz1, rfl, hoz1, hb⟩
  refine ⟨_, rfl, ?_⟩
  have HOz1 := aM (Kd.R_lower hoz1 (below_size (hX HB.out)))
  replace BKz1 := aB BKz1 hb
  replace HB := aS HB hb
  (try clear hb)
  (try clear hb2)
  (try clear hk)
  (try clear hi)
  (try clear hoz1)
  obtain ⟨Aoz1, coz1, eoz1⟩ := Kd.R_slice HOz1.out
  (first | subst eoz1 | (injection eoz1 with f1_ f2_ f3_; have fz1 := f1_.symm; have fz2 := f3_.symm; clear f1_ f2_ f3_; subst fz1; subst fz2))
  have pz1 : 0 ≤ (a0_0 : Int) := odA
  have qz1 : a0_0 < (t103.length : Int) := odA
  obtain ⟨adz1, ez1, hxz1⟩ := Kd.at_string (Kd.R_reads' HOz1.out).2.2 a0_0 pz1 qz1
  cases ez1
  replace pz1 := eq_true pz1
  replace qz1 := eq_true qz1
  refine hK.out _ _ ⟨cK BKz1.out 0, cK BKz1.out 1, cK BKz1.out 2⟩ (fun hHeld => ?_)
  clear hK K
  refine nZ 7 ?_
  refine pK 3 10 (bm 6 15) ?_
  refine Go.Proofs.YtafcfhgdblefgaaDoorZ.now_ (i := 4) (N := some 11) (v := ?_) (a' := ?_) #[true, true, true, true, true, false] rfl rfl (by kernel_rfl) (by decide) rfl ?_ hHeld ?_ ?_
  rotate_left
  · go_simp
    with_reducible rfl
  rotate_left
  · simp only [Act.put, List.setIfInBounds_toArray, List.set_cons_zero, List.set_cons_succ, i64_w, i32_w]
    rfl
  refine pK 5 3 (bm 6 63) ?_
  refine done_ (by kernel_rfl) ?_
  go_upto_region 4 with (fail)
  go_cut [19] (fun vz2 wc => ∃ (kq : Nat) (x19_6 : Bool), vz2 = .bool x19_6 ∧ Aside0 (spec_OpText.j0 kq (rdOf ByteArray.empty t103 a0_0) x19_6 a0_0 a0_1 a0_2 = some r) ∧ Aside0 (kq ≤ k) ∧ Aside0 (wc.heap[gbz1]? = some (.cells #[.int .i64 a0_0, .int .i64 a0_1, .int .i64 a0_2] 23 (0, 0))) ∧ Aside0 (Below w.heap.size w wc))
  case first =>
    have H := HC7.out
    clear HC7
    replace H := bE H; obtain ⟨t107, A14, H⟩ := H
    by_cases c15 : t107 = true
    · subst c15
      rw [if_pos rfl] at H
      have H' := aM H
      clear H
      obtain ⟨hczy1, hczy2, hczy3, hfzy1, hfzy2, hfzy3⟩ := cZ3 BKz1.out
      go_wp2_with (first | (refine goesM 30 14 Tryd.func30 #[.int .i64 a0_0] ?_; refine (spec_l4Key.calls _ _ _ A14.out).mono ?_; rintro e w' ⟨rfl, ⟨nd, rfl⟩⟩; refine ⟨_, rfl, ?_⟩))
      go_meet
      case rel => exact ⟨_, (true), rS, H', ⟨by first | omega | exact Nat.le_refl _⟩, ⟨(bX BKz1.out)⟩, ⟨(hX HB.out)⟩⟩
    replace c15 := Bool.eq_false_iff.mpr c15
    subst c15
    rw [if_neg nft] at H
    have H' := aM H
    clear H
    obtain ⟨hczy1, hczy2, hczy3, hfzy1, hfzy2, hfzy3⟩ := cZ3 BKz1.out
    go_wp2_with (first | (refine goesM 30 14 Tryd.func30 #[.int .i64 a0_0] ?_; refine (spec_l4Key.calls _ _ _ A14.out).mono ?_; rintro e w' ⟨rfl, ⟨nd, rfl⟩⟩; refine ⟨_, rfl, ?_⟩))
    go_meet
    case rel => exact ⟨_, ((a0_0 == 6)), rS, H', ⟨by first | omega | exact Nat.le_refl _⟩, ⟨(bX BKz1.out)⟩, ⟨(hX HB.out)⟩⟩
  case rest =>
    clear HC7
    try clear p1
    try clear q1
    try clear hx1
    try clear p2
    try clear c3
    try clear c5
    try clear c5b0
    try clear c6
    try clear c6b0
    try clear p10
    try clear q10
    try clear hx10
    try clear hczz1 hczz2 hczz3 hfzz1 hfzz2 hfzz3
    try clear hxz1
    try clear pz1
    try clear qz1
    obtain ⟨kq, x19_6, rfl, HA, HJy1, BKz1, HB⟩ := hcut
    cases kq with
    | zero => exact absurd HA.out (by simp [spec_OpText.j0])
    | succ kj6 =>
      have H := HA.out
      clear HA
      simp only [spec_OpText.j0] at H
      have HC18 := aM H
      clear H
      go_upto_if 19 with (fail)
      go_cut [3] (fun vx1 wc => ∃ (kq : Nat) (x3_17 : ByteArray), vx1 = .string x3_17 ∧ Aside0 (spec_OpText.j1 kq x3_17 a0_0 a0_1 a0_2 = some r) ∧ Aside0 (kq ≤ kj6) ∧ Aside0 (wc.heap[gbz1]? = some (.cells #[.int .i64 a0_0, .int .i64 a0_1, .int .i64 a0_2] 23 (0, 0))) ∧ Aside0 (Below w.heap.size w wc))
      case first =>
        have H := HC18.out
        clear HC18
        by_cases c19 : x19_6 = true
        case neg =>
          replace c19 := Bool.eq_false_iff.mpr c19
          subst c19
          rw [if_neg nft] at H
          have H' := aM H
          clear H
          go_wp2
          go_meet
          case rel => exact ⟨_, ((rdOf ByteArray.empty t103 a0_0)), rS, H', ⟨by have := HJy1.out; first | omega | exact Nat.le_refl _⟩, ⟨(bX BKz1.out)⟩, ⟨(hX HB.out)⟩⟩
        subst c19
        rw [if_pos rfl] at H
        replace H := ifP H; obtain ⟨c20, H⟩ := H
        have c20b0 := eq_true c20
        have c20b1 := decide_eq_true c20
        try have c20b2 : (9223372036854775807 < (rdOf ByteArray.empty t103 a0_0).size + 1) = False := eq_false (Nat.not_lt.2 c20)
        replace H := bE H; obtain ⟨t108, A21, H⟩ := H
        replace H := ifP H; obtain ⟨c22, H⟩ := H
        have c22b0 := eq_true c22
        have c22b1 := decide_eq_true c22
        try have c22b2 : (9223372036854775807 < ((rdOf ByteArray.empty t103 a0_0) ++ (⟨#[32]⟩ : ByteArray)).size + t108.size) = False := eq_false (Nat.not_lt.2 c22)
        (try (have c22b3 : (rdOf ByteArray.empty t103 a0_0).size + 1 + t108.size ≤ 9223372036854775807 := (by have h_ := c22; simp only [ByteArray.size_append, strOfNums_size] at h_; exact h_); have c22b4 := eq_true c22b3; (try have c22b5 := decide_eq_true c22b3); (try have c22b6 := eq_false (Nat.not_lt.2 c22b3))))
        have H' := aM H
        clear H
        obtain ⟨hczw1, hczw2, hczw3, hfzw1, hfzw2, hfzw3⟩ := cZ3 BKz1.out
        go_wp2_with (first | (refine goesM 46 24 Tryd.func46 #[.int .i64 a0_1] ?_; refine (spec_Digits.calls _ _ _ _ A21.out).mono ?_; rintro e ww1 ⟨rfl, hb⟩; refine ⟨_, rfl, ?_⟩; replace BKz1 := aB BKz1 hb; replace HB := aS HB hb; clear hb))
        go_meet
        case rel => exact ⟨_, (((rdOf ByteArray.empty t103 a0_0) ++ (⟨#[32]⟩ : ByteArray)) ++ t108), rS, H', ⟨by have := HJy1.out; first | omega | exact Nat.le_refl _⟩, ⟨(bX BKz1.out)⟩, ⟨(hX HB.out)⟩⟩
      case rest =>
        clear HC18
        try clear p1
        try clear q1
        try clear hx1
        try clear p2
        try clear c3
        try clear c5
        try clear c5b0
        try clear c6
        try clear c6b0
        try clear p10
        try clear q10
        try clear hx10
        try clear hczz1 hczz2 hczz3 hfzz1 hfzz2 hfzz3
        try clear hxz1
        try clear pz1
        try clear qz1
        obtain ⟨kq, x3_17, rfl, HA, HJw1, BKz1, HB⟩ := hcut
        cases kq with
        | zero => exact absurd HA.out (by simp [spec_OpText.j1])
        | succ kj17 =>
          have H := HA.out
          clear HA
          simp only [spec_OpText.j1] at H
          replace H := bE H; obtain ⟨t109, A25, H⟩ := H
          by_cases c26 : t109 = true
          case neg =>
            replace c26 := Bool.eq_false_iff.mpr c26
            subst c26
            rw [if_neg nft] at H
            obtain rfl := sI H
            obtain ⟨hczv1, hczv2, hczv3, hfzv1, hfzv2, hfzv3⟩ := cZ3 BKz1.out
            go_wp2_with (first | (refine goesM 47 28 Tryd.func47 #[.int .i64 a0_0] ?_; refine (spec_l4Val.calls _ _ _ A25.out).mono ?_; rintro e w' ⟨rfl, ⟨nd, rfl⟩⟩; refine ⟨_, rfl, ?_⟩))
            go_ret
            exact ⟨rE, (hX HB.out)⟩
          subst c26
          rw [if_pos rfl] at H
          replace H := ifP H; obtain ⟨c27, H⟩ := H
          have c27b0 := eq_true c27
          have c27b1 := decide_eq_true c27
          try have c27b2 : (9223372036854775807 < x3_17.size + 1) = False := eq_false (Nat.not_lt.2 c27)
          replace H := bE H; obtain ⟨t110, A28, H⟩ := H
          replace H := ifP H; obtain ⟨c29, H⟩ := H
          have c29b0 := eq_true c29
          have c29b1 := decide_eq_true c29
          try have c29b2 : (9223372036854775807 < (x3_17 ++ (⟨#[32]⟩ : ByteArray)).size + t110.size) = False := eq_false (Nat.not_lt.2 c29)
          (try (have c29b3 : x3_17.size + 1 + t110.size ≤ 9223372036854775807 := (by have h_ := c29; simp only [ByteArray.size_append, strOfNums_size] at h_; exact h_); have c29b4 := eq_true c29b3; (try have c29b5 := decide_eq_true c29b3); (try have c29b6 := eq_false (Nat.not_lt.2 c29b3))))
          obtain rfl := sI H
          obtain ⟨hczv1, hczv2, hczv3, hfzv1, hfzv2, hfzv3⟩ := cZ3 BKz1.out
          go_wp2_with (first | (refine goesM 47 28 Tryd.func47 #[.int .i64 a0_0] ?_; refine (spec_l4Val.calls _ _ _ A25.out).mono ?_; rintro e w' ⟨rfl, ⟨nd, rfl⟩⟩; refine ⟨_, rfl, ?_⟩) | (refine goesM 46 33 Tryd.func46 #[.int .i64 a0_2] ?_; refine (spec_Digits.calls _ _ _ _ A28.out).mono ?_; rintro e wv1 ⟨rfl, hb⟩; refine ⟨_, rfl, ?_⟩; replace BKz1 := aB BKz1 hb; replace HB := aS HB hb; clear hb))
          go_ret
          exact ⟨rE, (hX HB.out)⟩
mutual
def spec_Number.j0 : Nat → ByteArray → Bool → Option (Int × Bool)
  | 0, _, _ => none
  | k + 1, x0, x13 => if x13 = true then (some (0, false)) else (spec_Number.l0 k x0 0 0)
def spec_Number.l0 : Nat → ByteArray → Int → Int → Option (Int × Bool)
  | 0, _, _, _ => none
  | k + 1, x0, x4, x5 => if x5 < (x0.size : Int) then (if 0 ≤ x5 then (if (bt x0 x5) < 48 then (some (0, false)) else (if (bt x0 x5) > 57 then (some (0, false)) else (spec_Number.l0 k x0 (wrap64 ((wrap64 ((wrap64 (10 * x4)) + (wrap64 (bt x0 x5)))) - 48)) (wrap64 (x5 + 1))))) else (none)) else ((spec_Digits.f k x4).bind fun t101 => (if t101.toList = x0.toList then (some (x4, true)) else (some (0, false))))
end
def spec_Number.f (k : Nat) (a0 : ByteArray) : Option (Int × Bool) := if (a0.size : Int) < 1 then (spec_Number.j0 k a0 true) else (spec_Number.j0 k a0 (decide ((a0.size : Int) > 6)))
theorem spec_Number.mono_l : ∀ k, (∀ y0 y1, LeO (spec_Number.j0 k y0 y1) (spec_Number.j0 (k + 1) y0 y1)) ∧ (∀ y0 y1 y2, LeO (spec_Number.l0 k y0 y1 y2) (spec_Number.l0 (k + 1) y0 y1 y2))
  | 0 => ⟨fun _ _ r h => by simp [spec_Number.j0] at h, fun _ _ _ r h => by simp [spec_Number.l0] at h⟩
  | k + 1 => by
    obtain ⟨ih0, ih1⟩ := spec_Number.mono_l k
    refine ⟨?_, ?_⟩
    · intro y0 y1
      unfold spec_Number.j0
      repeat' first
      | (with_reducible exact ih0 _ _)
      | (with_reducible exact ih1 _ _ _)
      | (with_reducible exact spec_Digits.mono _ _)
      | (with_reducible exact LeO.refl _)
      | (with_reducible exact LeO.none _)
      | (with_reducible refine LeO.ite ?_ ?_)
      | (with_reducible refine LeO.bind ?_ (fun _ => ?_))
      | exact ih0 _ _
      | exact ih1 _ _ _
      | exact spec_Digits.mono _ _
      | exact LeO.none _
      | refine LeO.ite ?_ ?_
      | refine LeO.bind ?_ (fun _ => ?_)
    · intro y0 y1 y2
      unfold spec_Number.l0
      repeat' first
      | (with_reducible exact ih0 _ _)
      | (with_reducible exact ih1 _ _ _)
      | (with_reducible exact spec_Digits.mono _ _)
      | (with_reducible exact LeO.refl _)
      | (with_reducible exact LeO.none _)
      | (with_reducible refine LeO.ite ?_ ?_)
      | (with_reducible refine LeO.bind ?_ (fun _ => ?_))
      | exact ih0 _ _
      | exact ih1 _ _ _
      | exact spec_Digits.mono _ _
      | exact LeO.none _
      | refine LeO.ite ?_ ?_
      | refine LeO.bind ?_ (fun _ => ?_)
theorem spec_Number.mono : ∀ a0 k, LeO (spec_Number.f k a0) (spec_Number.f (k + 1) a0) := by
  intro a0 k
  obtain ⟨ih0, ih1⟩ := spec_Number.mono_l k
  unfold spec_Number.f
  repeat' first
      | (with_reducible exact ih0 _ _)
      | (with_reducible exact ih1 _ _ _)
      | (with_reducible exact spec_Digits.mono _ _)
      | (with_reducible exact LeO.refl _)
      | (with_reducible exact LeO.none _)
      | (with_reducible refine LeO.ite ?_ ?_)
      | (with_reducible refine LeO.bind ?_ (fun _ => ?_))
      | exact ih0 _ _
      | exact ih1 _ _ _
      | exact spec_Digits.mono _ _
      | exact LeO.none _
      | refine LeO.ite ?_ ?_
      | refine LeO.bind ?_ (fun _ => ?_)
set_option maxHeartbeats 8000000 in
set_option maxRecDepth 100000 in
theorem spec_Number.calls (k : Nat) (a0 : ByteArray) (r1 : Int) (r2 : Bool) (w : World) (h : spec_Number.f k a0 = some (r1, r2)) :
    Calls Tryd.prog 29 #[.string a0] w fun e w' => e = .returned (.tuple #[.int .i64 r1, .bool r2]) ∧ Below w.heap.size w w' := by
  have HB := aM (Below.refl w.heap.size w)
  have H := h
  unfold spec_Number.f at H
  clear h
  have HC2 := aM H
  clear H
  go_enter Tryd.func29, Tryd.ntmps29
  go_upto_region 1 with (fail)
  go_cut [13] (fun vz1 wc => ∃ (kq : Nat) (x13_1 : Bool), vz1 = .bool x13_1 ∧ Aside0 (spec_Number.j0 kq a0 x13_1 = some (r1, r2)) ∧ Aside0 (kq ≤ k) ∧ Aside0 (Below w.heap.size w wc))
  case first =>
    have H := HC2.out
    clear HC2
    by_cases c3 : (a0.size : Int) < 1
    · rw [if_pos c3] at H
      have c3b0 := decide_eq_true c3
      have c3b1 : decide (a0.size < 1) = true := decide_eq_true (by omega)
      clear c3
      (first | rw [c3b0] | (simp only [i64_w, i32_w]; rw [c3b0]) | skip)
      have H' := aM H
      clear H
      go_wp2
      go_meet
      case rel => exact ⟨_, (true), rS, H', ⟨by first | omega | exact Nat.le_refl _⟩, ⟨(hX HB.out)⟩⟩
    rw [if_neg c3] at H
    have c3b0 := decide_eq_false c3
    have c3b1 : decide (a0.size < 1) = false := decide_eq_false (by omega)
    clear c3
    (first | rw [c3b0] | (simp only [i64_w, i32_w]; rw [c3b0]) | skip)
    have H' := aM H
    clear H
    go_wp2
    go_meet
    case rel => exact ⟨_, (decide ((a0.size : Int) > 6)), rS, H', ⟨by first | omega | exact Nat.le_refl _⟩, ⟨(hX HB.out)⟩⟩
  case rest =>
    clear HC2
    try clear p2
    obtain ⟨kq, x13_1, rfl, HA, HJy1, HB⟩ := hcut
    cases kq with
    | zero => exact absurd HA.out (by simp [spec_Number.j0])
    | succ kj1 =>
      have H := HA.out
      clear HA
      simp only [spec_Number.j0] at H
      by_cases c4 : x13_1 = true
      · subst c4
        rw [if_pos rfl] at H
        simp only [Option.some.injEq, Prod.mk.injEq] at H
        obtain ⟨rfl, rfl⟩ := H
        go_wp2
        go_ret2
        exact ⟨rE, (hX HB.out)⟩
      replace c4 := Bool.eq_false_iff.mpr c4
      subst c4
      rw [if_neg nft] at H
      have H' := aM H
      clear H
      go_wp2
      go_loopg [4, 5] kj1 (fun kq v4 v5 w' => ∃ (x4_2 : Int) (x5_2 : Int), v4 = .int .i64 x4_2 ∧ v5 = .int .i64 x5_2 ∧ Aside0 (spec_Number.l0 kq a0 x4_2 x5_2 = some (r1, r2)) ∧ Aside0 (kq ≤ kj1) ∧ Aside0 (Below w.heap.size w w'))
      case atStart => exact ⟨(0), (0), rS, rS, H', ⟨Nat.le_refl _⟩, ⟨(hX HB.out)⟩⟩
      case round =>
        clear H'
        try clear p2
        try clear c4
        obtain ⟨x4_2, x5_2, rfl, rfl, HA, HKw1, HB⟩ := hrel
        cases gk with
        | zero => exact absurd HA.out (by simp [spec_Number.l0])
        | succ k2 =>
          have H := HA.out
          clear HA
          simp only [spec_Number.l0] at H
          by_cases c5 : x5_2 < (a0.size : Int)
          case neg =>
            rw [if_neg c5] at H
            have c5b0 := decide_eq_false c5
            clear c5
            replace H := bE H; obtain ⟨t101, A12, H⟩ := H
            go_wp2_with (first | (refine goesM 46 39 Tryd.func46 #[.int .i64 x4_2] ?_; refine (spec_Digits.calls _ _ _ _ A12.out).mono ?_; rintro e wv1 ⟨rfl, hb⟩; refine ⟨_, rfl, ?_⟩; replace HB := aS HB hb; clear hb; refine Stop.out ?_))
            refine ⟨?_⟩
            by_cases c13 : t101.toList = a0.toList
            case neg =>
              rw [if_neg c13] at H
              obtain ⟨c13b0, c13b1⟩ := eqF c13
              simp only [Option.some.injEq, Prod.mk.injEq] at H
              obtain ⟨rfl, rfl⟩ := H
              go_wp2
              go_ret2
              exact ⟨rE, (hX HB.out)⟩
            rw [if_pos c13] at H
            obtain ⟨c13b0, c13b1⟩ := eqT c13
            clear c13
            simp only [Option.some.injEq, Prod.mk.injEq] at H
            obtain ⟨rfl, rfl⟩ := H
            go_wp2
            go_ret2
            exact ⟨rE, (hX HB.out)⟩
          rw [if_pos c5] at H
          have c5b0 := decide_eq_true c5
          clear c5
          replace H := ifP H; obtain ⟨c6, H⟩ := H
          have c6b0 := decide_eq_true c6
          clear c6
          by_cases c8 : (bt a0 x5_2) < 48
          · rw [if_pos c8] at H
            have c8b0 := decide_eq_true c8
            clear c8
            simp only [Option.some.injEq, Prod.mk.injEq] at H
            obtain ⟨rfl, rfl⟩ := H
            have pv1 : 0 ≤ (x5_2 : Int) := odA
            have qv1 : x5_2 < (a0.size : Int) := odA
            have hxv1 := bt_at a0 x5_2
            replace pv1 := eq_true pv1
            replace qv1 := eq_true qv1
            go_wp2
            go_ret2
            exact ⟨rE, (hX HB.out)⟩
          rw [if_neg c8] at H
          have c8b0 := decide_eq_false c8
          clear c8
          by_cases c10 : (bt a0 x5_2) > 57
          · rw [if_pos c10] at H
            have c10b0 := decide_eq_true c10
            clear c10
            simp only [Option.some.injEq, Prod.mk.injEq] at H
            obtain ⟨rfl, rfl⟩ := H
            have pv1 : 0 ≤ (x5_2 : Int) := odA
            have qv1 : x5_2 < (a0.size : Int) := odA
            have hxv1 := bt_at a0 x5_2
            replace pv1 := eq_true pv1
            replace qv1 := eq_true qv1
            have pv2 : 0 ≤ (x5_2 : Int) := odA
            have qv2 : x5_2 < (a0.size : Int) := odA
            have hxv2 := bt_at a0 x5_2
            replace pv2 := eq_true pv2
            replace qv2 := eq_true qv2
            go_wp2
            go_ret2
            exact ⟨rE, (hX HB.out)⟩
          rw [if_neg c10] at H
          have c10b0 := decide_eq_false c10
          clear c10
          have H' := aM H
          clear H
          have pv1 : 0 ≤ (x5_2 : Int) := odA
          have qv1 : x5_2 < (a0.size : Int) := odA
          have hxv1 := bt_at a0 x5_2
          replace pv1 := eq_true pv1
          replace qv1 := eq_true qv1
          have pv2 : 0 ≤ (x5_2 : Int) := odA
          have qv2 : x5_2 < (a0.size : Int) := odA
          have hxv2 := bt_at a0 x5_2
          replace pv2 := eq_true pv2
          replace qv2 := eq_true qv2
          have pv3 : 0 ≤ (x5_2 : Int) := odA
          have qv3 : x5_2 < (a0.size : Int) := odA
          have hxv3 := bt_at a0 x5_2
          replace pv3 := eq_true pv3
          replace qv3 := eq_true qv3
          go_wp2
          go_roundg k2
          case measure => have := HJy1.out; have := HKw1.out; omega
          case rel => exact ⟨(wrap64 ((wrap64 ((wrap64 (10 * x4_2)) + (wrap64 (bt a0 x5_2)))) - 48)), (wrap64 (x5_2 + 1)), rS, rS, H', ⟨by have := HJy1.out; have := HKw1.out; omega⟩, ⟨(hX HB.out)⟩⟩
mutual
def spec_OpOf.l0 : Nat → ByteArray → List ByteArray → List ByteArray → Int → Option (Int × Int × Int × Bool)
  | 0, _, _, _, _ => none
  | k + 1, x0, x4, x5, x6 => if x6 < (x5.length : Int) then (if 0 ≤ x6 then (if 0 < (x4.length : Int) then (if (rdOf ByteArray.empty x5 x6).toList = (rdOf ByteArray.empty x4 0).toList then (if (x4.length : Int) > 1 then (if 1 < (x4.length : Int) then ((spec_Number.f k (rdOf ByteArray.empty x4 1)).bind fun bt112 => ((spec_l4Key.f x6).bind fun t114 => (if t114 = true then (spec_OpOf.j1 k x0 x4 x5 x6 x6 bt112.1 0) else (if x6 = 6 then (spec_OpOf.j1 k x0 x4 x5 x6 x6 bt112.1 0) else (spec_OpOf.j1 k x0 x4 x5 x6 x6 0 bt112.1))))) else (none)) else (spec_OpOf.j1 k x0 x4 x5 x6 x6 0 0)) else (spec_OpOf.l0 k x0 x4 x5 (wrap64 (x6 + 1)))) else (none)) else (none)) else (some (0, 0, 0, false))
def spec_OpOf.j1 : Nat → ByteArray → List ByteArray → List ByteArray → Int → Int → Int → Int → Option (Int × Int × Int × Bool)
  | 0, _, _, _, _, _, _, _ => none
  | k + 1, x0, x4, x5, x6, x111000, x111001, x111002 => if (x4.length : Int) > 2 then (if 2 < (x4.length : Int) then ((spec_Number.f k (rdOf ByteArray.empty x4 2)).bind fun bt116 => (spec_OpOf.j2 k x0 x4 x5 x6 x111000 x111001 bt116.1)) else (none)) else (spec_OpOf.j2 k x0 x4 x5 x6 x111000 x111001 x111002)
def spec_OpOf.j2 : Nat → ByteArray → List ByteArray → List ByteArray → Int → Int → Int → Int → Option (Int × Int × Int × Bool)
  | 0, _, _, _, _, _, _, _ => none
  | k + 1, x0, x4, x5, x6, x111000, x111001, x111002 => (spec_OpOk.f k x111000 x111001 x111002).bind fun t118 => (if t118 = true then ((spec_OpText.f k x111000 x111001 x111002).bind fun t119 => (if t119.toList = x0.toList then (some (x111000, x111001, x111002, true)) else (spec_OpOf.l0 k x0 x4 x5 (wrap64 (x6 + 1))))) else (spec_OpOf.l0 k x0 x4 x5 (wrap64 (x6 + 1))))
end
def spec_OpOf.f (k : Nat) (a0 : ByteArray) : Option (Int × Int × Int × Bool) := (spec_Split.f k a0 32).bind fun t102 => ((spec_l14Names.f).bind fun t105 => (spec_OpOf.l0 k a0 t102 t105 1))
theorem spec_OpOf.mono_l : ∀ k, (∀ y0 y1 y2 y3, LeO (spec_OpOf.l0 k y0 y1 y2 y3) (spec_OpOf.l0 (k + 1) y0 y1 y2 y3)) ∧ (∀ y0 y1 y2 y3 y4 y5 y6, LeO (spec_OpOf.j1 k y0 y1 y2 y3 y4 y5 y6) (spec_OpOf.j1 (k + 1) y0 y1 y2 y3 y4 y5 y6)) ∧ (∀ y0 y1 y2 y3 y4 y5 y6, LeO (spec_OpOf.j2 k y0 y1 y2 y3 y4 y5 y6) (spec_OpOf.j2 (k + 1) y0 y1 y2 y3 y4 y5 y6))
  | 0 => ⟨fun _ _ _ _ r h => by simp [spec_OpOf.l0] at h, fun _ _ _ _ _ _ _ r h => by simp [spec_OpOf.j1] at h, fun _ _ _ _ _ _ _ r h => by simp [spec_OpOf.j2] at h⟩
  | k + 1 => by
    obtain ⟨ih0, ih1, ih2⟩ := spec_OpOf.mono_l k
    refine ⟨?_, ?_, ?_⟩
    · intro y0 y1 y2 y3
      unfold spec_OpOf.l0
      repeat' first
      | (with_reducible exact ih0 _ _ _ _)
      | (with_reducible exact ih1 _ _ _ _ _ _ _)
      | (with_reducible exact ih2 _ _ _ _ _ _ _)
      | (with_reducible exact spec_Number.mono _ _)
      | (with_reducible exact spec_OpOk.mono _ _ _ _)
      | (with_reducible exact spec_OpText.mono _ _ _ _)
      | (with_reducible exact spec_Split.mono _ _ _)
      | (with_reducible exact LeO.refl _)
      | (with_reducible exact LeO.none _)
      | (with_reducible refine LeO.ite ?_ ?_)
      | (with_reducible refine LeO.bind ?_ (fun _ => ?_))
      | exact ih0 _ _ _ _
      | exact ih1 _ _ _ _ _ _ _
      | exact ih2 _ _ _ _ _ _ _
      | exact spec_Number.mono _ _
      | exact spec_OpOk.mono _ _ _ _
      | exact spec_OpText.mono _ _ _ _
      | exact spec_Split.mono _ _ _
      | exact LeO.none _
      | refine LeO.ite ?_ ?_
      | refine LeO.bind ?_ (fun _ => ?_)
    · intro y0 y1 y2 y3 y4 y5 y6
      unfold spec_OpOf.j1
      repeat' first
      | (with_reducible exact ih0 _ _ _ _)
      | (with_reducible exact ih1 _ _ _ _ _ _ _)
      | (with_reducible exact ih2 _ _ _ _ _ _ _)
      | (with_reducible exact spec_Number.mono _ _)
      | (with_reducible exact spec_OpOk.mono _ _ _ _)
      | (with_reducible exact spec_OpText.mono _ _ _ _)
      | (with_reducible exact spec_Split.mono _ _ _)
      | (with_reducible exact LeO.refl _)
      | (with_reducible exact LeO.none _)
      | (with_reducible refine LeO.ite ?_ ?_)
      | (with_reducible refine LeO.bind ?_ (fun _ => ?_))
      | exact ih0 _ _ _ _
      | exact ih1 _ _ _ _ _ _ _
      | exact ih2 _ _ _ _ _ _ _
      | exact spec_Number.mono _ _
      | exact spec_OpOk.mono _ _ _ _
      | exact spec_OpText.mono _ _ _ _
      | exact spec_Split.mono _ _ _
      | exact LeO.none _
      | refine LeO.ite ?_ ?_
      | refine LeO.bind ?_ (fun _ => ?_)
    · intro y0 y1 y2 y3 y4 y5 y6
      unfold spec_OpOf.j2
      repeat' first
      | (with_reducible exact ih0 _ _ _ _)
      | (with_reducible exact ih1 _ _ _ _ _ _ _)
      | (with_reducible exact ih2 _ _ _ _ _ _ _)
      | (with_reducible exact spec_Number.mono _ _)
      | (with_reducible exact spec_OpOk.mono _ _ _ _)
      | (with_reducible exact spec_OpText.mono _ _ _ _)
      | (with_reducible exact spec_Split.mono _ _ _)
      | (with_reducible exact LeO.refl _)
      | (with_reducible exact LeO.none _)
      | (with_reducible refine LeO.ite ?_ ?_)
      | (with_reducible refine LeO.bind ?_ (fun _ => ?_))
      | exact ih0 _ _ _ _
      | exact ih1 _ _ _ _ _ _ _
      | exact ih2 _ _ _ _ _ _ _
      | exact spec_Number.mono _ _
      | exact spec_OpOk.mono _ _ _ _
      | exact spec_OpText.mono _ _ _ _
      | exact spec_Split.mono _ _ _
      | exact LeO.none _
      | refine LeO.ite ?_ ?_
      | refine LeO.bind ?_ (fun _ => ?_)
theorem spec_OpOf.mono : ∀ a0 k, LeO (spec_OpOf.f k a0) (spec_OpOf.f (k + 1) a0) := by
  intro a0 k
  obtain ⟨ih0, ih1, ih2⟩ := spec_OpOf.mono_l k
  unfold spec_OpOf.f
  repeat' first
      | (with_reducible exact ih0 _ _ _ _)
      | (with_reducible exact ih1 _ _ _ _ _ _ _)
      | (with_reducible exact ih2 _ _ _ _ _ _ _)
      | (with_reducible exact spec_Number.mono _ _)
      | (with_reducible exact spec_OpOk.mono _ _ _ _)
      | (with_reducible exact spec_OpText.mono _ _ _ _)
      | (with_reducible exact spec_Split.mono _ _ _)
      | (with_reducible exact LeO.refl _)
      | (with_reducible exact LeO.none _)
      | (with_reducible refine LeO.ite ?_ ?_)
      | (with_reducible refine LeO.bind ?_ (fun _ => ?_))
      | exact ih0 _ _ _ _
      | exact ih1 _ _ _ _ _ _ _
      | exact ih2 _ _ _ _ _ _ _
      | exact spec_Number.mono _ _
      | exact spec_OpOk.mono _ _ _ _
      | exact spec_OpText.mono _ _ _ _
      | exact spec_Split.mono _ _ _
      | exact LeO.none _
      | refine LeO.ite ?_ ?_
      | refine LeO.bind ?_ (fun _ => ?_)
set_option maxHeartbeats 8000000 in
set_option maxRecDepth 100000 in
theorem spec_OpOf.calls (k : Nat) (a0 : ByteArray) (r1 : Int) (r2 : Int) (r3 : Int) (r4 : Bool) (w : World) (h : spec_OpOf.f k a0 = some (r1, r2, r3, r4)) :
    Calls Tryd.prog 6 #[.string a0] w fun e w' => e = .returned (.tuple #[.agg #[.int .i64 r1, .int .i64 r2, .int .i64 r3], .bool r4]) ∧ Below w.heap.size w w' := by
  have hu23 := Tryd.underlying23
  have HB := aM (Below.refl w.heap.size w)
  have H := h
  unfold spec_OpOf.f at H
  clear h
  replace H := bE H; obtain ⟨t102, A2, H⟩ := H
  replace H := bE H; obtain ⟨t105, A3, H⟩ := H
  have H' := aM H
  clear H
  go_enter Tryd.func6, Tryd.ntmps6
  go_wp2_with (first | (refine boxE 2 #[.int .i64 0, .int .i64 0, .int .i64 0] 23 ?_; intro gbz1 hg wz1 hbox hb; have BKz1 := aM (hbox); have GWz1 := aG hg HB; have GEz1 := aG hg HB; replace HB := aS HB hb; clear hb hbox hg) | (go_at_call 27; (with_reducible refine (spec_Split.calls _ _ _ _ _ A2.out).mono ?_); rintro e wz2 ⟨vz1, rfl, hoz1, hb⟩; have HOz1 := aM (Kd.R_lower hoz1 (below_size (hX HB.out))); replace BKz1 := aB BKz1 hb; replace HB := aS HB hb; clear hb hoz1) | (go_at_call 28; (with_reducible refine (spec_l14Names.calls _ _ A3.out).mono ?_); rintro e wz3 ⟨vz2, rfl, hoz1, hb⟩; have HOz2 := aM (Kd.R_lower (Kd.R_new' hoz1 (Kd.R_lt (rX HOz1.out))) (below_size (hX HB.out))); replace HOz1 := aM (Kd.R_elder' (rX HOz1.out) (Kd.R_base hoz1) hb); replace BKz1 := aB BKz1 hb; replace HB := aS HB hb; clear hb hoz1))
  repeat (go_quiet (fail); try go_wp2_with (first | ((with_reducible refine gate_dst (N := 2) rfl ?_); refine boxF 2 #[.int .i64 0, .int .i64 0, .int .i64 0] 23 ?_; intro gbz1 hg wz1 hbox hb; have BKz1 := aM (hbox); have GWz1 := aG hg HB; have GEz1 := aG hg HB; replace HB := aS HB hb; clear hb hbox hg) | (go_at_call 27; (with_reducible refine (spec_Split.calls _ _ _ _ _ A2.out).mono ?_); rintro e wz2 ⟨vz1, rfl, hoz1, hb⟩; have HOz1 := aM (Kd.R_lower hoz1 (below_size (hX HB.out))); replace BKz1 := aB BKz1 hb; replace HB := aS HB hb; clear hb hoz1) | (go_at_call 28; (with_reducible refine (spec_l14Names.calls _ _ A3.out).mono ?_); rintro e wz3 ⟨vz2, rfl, hoz1, hb⟩; have HOz2 := aM (Kd.R_lower (Kd.R_new' hoz1 (Kd.R_lt (rX HOz1.out))) (below_size (hX HB.out))); replace HOz1 := aM (Kd.R_elder' (rX HOz1.out) (Kd.R_base hoz1) hb); replace BKz1 := aB BKz1 hb; replace HB := aS HB hb; clear hb hoz1)))
  go_loopg [6] k (fun kq v6 w' => ∃ (x6_1 : Int) (x102000_1 : Int) (x102001_1 : Int) (x102002_1 : Int), v6 = .int .i64 x6_1 ∧ Aside0 (spec_OpOf.l0 kq a0 t102 t105 x6_1 = some (r1, r2, r3, r4)) ∧ Aside0 (kq ≤ k) ∧ Aside0 (Kd.R Kd.string 9 w' w.heap.size (fun k_ => some k_ ≠ (vz2 : Value).ownBlock) vz1 t102) ∧ Aside0 (Kd.R Kd.string 9 w' w.heap.size (fun k_ => some k_ ≠ (vz1 : Value).ownBlock) vz2 t105) ∧ Aside0 (w'.heap[gbz1]? = some (.cells #[.int .i64 x102000_1, .int .i64 x102001_1, .int .i64 x102002_1] 23 (0, 0))) ∧ Aside0 (Below w.heap.size w w'))
  case atStart => exact ⟨(1), (0), (0), (0), rS, H', ⟨Nat.le_refl _⟩, ⟨(rT (h := by exact Kd.R_mono HOz1.out (fun _ hk => hk.2)))⟩, ⟨(rT (h := by exact Kd.R_mono HOz2.out (fun _ hk => hk.2)))⟩, ⟨(bX BKz1.out)⟩, ⟨(hX HB.out)⟩⟩
  case round =>
    clear H'
    try clear p2
    obtain ⟨x6_1, x102000_1, x102001_1, x102002_1, rfl, HA, HKy1, HO_y1, HO_y2, BKz1, HB⟩ := hrel
    cases gk with
    | zero => exact absurd HA.out (by simp [spec_OpOf.l0])
    | succ k1 =>
      have H := HA.out
      clear HA
      simp only [spec_OpOf.l0] at H
      by_cases c7 : x6_1 < (t105.length : Int)
      case neg =>
        rw [if_neg c7] at H
        have c7b0 := decide_eq_false c7
        clear c7
        simp only [Option.some.injEq, Prod.mk.injEq] at H
        obtain ⟨rfl, rfl, rfl, rfl⟩ := H
        obtain ⟨Aox1, cox1, eox1⟩ := Kd.R_slice HO_y2.out
        subst eox1
        obtain ⟨hczx1, hczx2, hczx3, hfzx1, hfzx2, hfzx3⟩ := cZ3 BKz1.out
        go_wp2
        repeat (go_quiet (fail); try go_wp2)
        refine bodyPost_ret (results_ct rfl _ _ gbz1 23 #[.int .i64 0, .int .i64 0, .int .i64 0] (0, 0) _ rfl (bP BKz1.out) Tryd.underlying23 rfl (by kernel_rfl)) rfl ?_
        exact ⟨rE, (hX HB.out)⟩
      rw [if_pos c7] at H
      have c7b0 := decide_eq_true c7
      clear c7
      replace H := ifP H; obtain ⟨c8, H⟩ := H
      have c8b0 := decide_eq_true c8
      clear c8
      replace H := ifP H; obtain ⟨c9, H⟩ := H
      have c9b0 := decide_eq_true c9
      have c9b1 : decide (0 < t102.length) = true := decide_eq_true (by omega)
      clear c9
      by_cases c10 : (rdOf ByteArray.empty t105 x6_1).toList = (rdOf ByteArray.empty t102 0).toList
      case neg =>
        rw [if_neg c10] at H
        obtain ⟨c10b0, c10b1⟩ := eqF c10
        have H' := aM H
        clear H
        obtain ⟨Aox1, cox1, eox1⟩ := Kd.R_slice HO_y2.out
        subst eox1
        have px1 : 0 ≤ (x6_1 : Int) := odA
        have qx1 : x6_1 < (t105.length : Int) := odA
        obtain ⟨adx1, ex1, hxx1⟩ := Kd.at_string (Kd.R_reads' HO_y2.out).2.2 x6_1 px1 qx1
        cases ex1
        replace px1 := eq_true px1
        replace qx1 := eq_true qx1
        obtain ⟨Aox2, cox2, eox2⟩ := Kd.R_slice HO_y1.out
        subst eox2
        have px2 : 0 ≤ (0 : Int) := (by omega)
        have qx2 : 0 < (t102.length : Int) := odA
        obtain ⟨adx2, ex2, hxx2⟩ := Kd.at_string (Kd.R_reads' HO_y1.out).2.2 0 px2 qx2
        cases ex2
        have qix1 : (0 < t102.length) = True := eq_true (by omega)
        (try rw [show ((0 : Int)).toNat = 0 from rfl] at hxx2)
        (try rw [Addr.add_zero'] at hxx2)
        replace px2 := eq_true px2
        replace qx2 := eq_true qx2
        go_wp2
        repeat (go_quiet (fail); try go_wp2)
        go_roundg k1
        case measure => have := HKy1.out; omega
        case rel => exact ⟨(wrap64 (x6_1 + 1)), (x102000_1), (x102001_1), (x102002_1), rS, H', ⟨by have := HKy1.out; omega⟩, ⟨(rX HO_y1.out)⟩, ⟨(rX HO_y2.out)⟩, ⟨(bX BKz1.out)⟩, ⟨(hX HB.out)⟩⟩
      rw [if_pos c10] at H
      obtain ⟨c10b0, c10b1⟩ := eqT c10
      clear c10
      have HC11 := aM H
      clear H
      obtain ⟨Aox1, cox1, eox1⟩ := Kd.R_slice HO_y2.out
      subst eox1
      have px1 : 0 ≤ (x6_1 : Int) := odA
      have qx1 : x6_1 < (t105.length : Int) := odA
      obtain ⟨adx1, ex1, hxx1⟩ := Kd.at_string (Kd.R_reads' HO_y2.out).2.2 x6_1 px1 qx1
      cases ex1
      replace px1 := eq_true px1
      replace qx1 := eq_true qx1
      obtain ⟨Aox2, cox2, eox2⟩ := Kd.R_slice HO_y1.out
      subst eox2
      have px2 : 0 ≤ (0 : Int) := (by omega)
      have qx2 : 0 < (t102.length : Int) := odA
      obtain ⟨adx2, ex2, hxx2⟩ := Kd.at_string (Kd.R_reads' HO_y1.out).2.2 0 px2 qx2
      cases ex2
      have qix1 : (0 < t102.length) = True := eq_true (by omega)
      (try rw [show ((0 : Int)).toNat = 0 from rfl] at hxx2)
      (try rw [Addr.add_zero'] at hxx2)
      replace px2 := eq_true px2
      replace qx2 := eq_true qx2
      go_upto_if 31 with (first | ((with_reducible refine gate_dst (N := 7) rfl ?_); refine boxE 7 #[.int .i64 0, .int .i64 0, .int .i64 0] 23 ?_; intro gbx1 hg wx1 hbox hb; have BKx1 := aM (hbox); have GWx1 := aG hg HB; have GEx1 := aG hg HB; have NBx1 := aL hg BKz1; have NBx2 := aR hg BKz1; replace HO_y1 := aQ HO_y1 hb; replace HO_y2 := aQ HO_y2 hb; replace BKz1 := aB BKz1 hb; replace HB := aS HB hb; clear hb hbox hg; have hnbx1 := NBx2.out; have hncx1 := NBx1.out; obtain ⟨hczx1, hczx2, hczx3, hfzx1, hfzx2, hfzx3⟩ := cZ3 BKx1.out))
      repeat (go_quiet (fail); go_upto_if 31 with (first | ((with_reducible refine gate_dst (N := 7) rfl ?_); refine boxF 7 #[.int .i64 0, .int .i64 0, .int .i64 0] 23 ?_; intro gbx1 hg wx1 hbox hb; have BKx1 := aM (hbox); have GWx1 := aG hg HB; have GEx1 := aG hg HB; have NBx1 := aL hg BKz1; have NBx2 := aR hg BKz1; replace HO_y1 := aQ HO_y1 hb; replace HO_y2 := aQ HO_y2 hb; replace BKz1 := aB BKz1 hb; replace HB := aS HB hb; clear hb hbox hg; have hnbx1 := NBx2.out; have hncx1 := NBx1.out; obtain ⟨hczx1, hczx2, hczx3, hfzx1, hfzx2, hfzx3⟩ := cZ3 BKx1.out)))
      (try simp only [Act.put, List.setIfInBounds_toArray, List.set_cons_zero, List.set_cons_succ])
      go_cut [] (fun wc => ∃ (kq : Nat) (x111001_10 : Int) (x111002_10 : Int), Aside0 (spec_OpOf.j1 kq a0 t102 t105 x6_1 x6_1 x111001_10 x111002_10 = some (r1, r2, r3, r4)) ∧ Aside0 (kq ≤ k1) ∧ Aside0 (Kd.R Kd.string 9 wc w.heap.size (fun k_ => some k_ ≠ ((.slice (some adx1) t105.length cox1) : Value).ownBlock) (.slice (some adx2) t102.length cox2) t102) ∧ Aside0 (Kd.R Kd.string 9 wc w.heap.size (fun k_ => some k_ ≠ ((.slice (some adx2) t102.length cox2) : Value).ownBlock) (.slice (some adx1) t105.length cox1) t105) ∧ Aside0 (wc.heap[gbz1]? = some (.cells #[.int .i64 x102000_1, .int .i64 x102001_1, .int .i64 x102002_1] 23 (0, 0))) ∧ Aside0 (wc.heap[gbx1]? = some (.cells #[.int .i64 x6_1, .int .i64 x111001_10, .int .i64 x111002_10] 23 (0, 0))) ∧ Aside0 (Below w.heap.size w wc))
      case first =>
        have H := HC11.out
        clear HC11
        by_cases c17 : (t102.length : Int) > 1
        case neg =>
          rw [if_neg c17] at H
          have c17b0 := decide_eq_false c17
          have c17b1 : decide (1 < t102.length) = false := decide_eq_false (by omega)
          clear c17
          (first | rw [c17b0] | (simp only [i64_w, i32_w]; rw [c17b0]) | skip)
          have H' := aM H
          clear H
          go_wp2
          repeat (go_quiet (fail); try go_wp2)
          go_meet
          case rel => exact ⟨_, (0), (0), H', ⟨by have := HKy1.out; first | omega | exact Nat.le_refl _⟩, ⟨(rT (h := by exact Kd.R_mono (Kd.R_far (p := ⟨gbx1, 2, none⟩) (Kd.R_far (p := ⟨gbx1, 1, none⟩) (Kd.R_far (p := ⟨gbx1, 0, none⟩) (Kd.R_types HO_y1.out BKx1.out (by decide)) (fun _ hk => hk.2) (.int .i64 x6_1)) (fun _ hk => hk.2) (.int .i64 0)) (fun _ hk => hk.2) (.int .i64 0)) (fun _ hk => hk.1)))⟩, ⟨(rT (h := by exact Kd.R_mono (Kd.R_far (p := ⟨gbx1, 2, none⟩) (Kd.R_far (p := ⟨gbx1, 1, none⟩) (Kd.R_far (p := ⟨gbx1, 0, none⟩) (Kd.R_types HO_y2.out BKx1.out (by decide)) (fun _ hk => hk.2) (.int .i64 x6_1)) (fun _ hk => hk.2) (.int .i64 0)) (fun _ hk => hk.2) (.int .i64 0)) (fun _ hk => hk.1)))⟩, ⟨(bF BKz1.out)⟩, ⟨(bP BKx1.out)⟩, ⟨(hX HB.out)⟩⟩
        rw [if_pos c17] at H
        have c17b0 := decide_eq_true c17
        have c17b1 : decide (1 < t102.length) = true := decide_eq_true (by omega)
        clear c17
        (first | rw [c17b0] | (simp only [i64_w, i32_w]; rw [c17b0]) | skip)
        replace H := ifP H; obtain ⟨c18, H⟩ := H
        have c18b0 := decide_eq_true c18
        have c18b1 : decide (1 < t102.length) = true := decide_eq_true (by omega)
        clear c18
        replace H := bE H; obtain ⟨⟨t112, t113⟩, A19, H⟩ := H
        try dsimp only at H
        replace H := bE H; obtain ⟨t114, A20, H⟩ := H
        have pw1 : 0 ≤ (1 : Int) := (by omega)
        have qw1 : 1 < (t102.length : Int) := odA
        obtain ⟨adw1, ew1, hxw1⟩ := Kd.at_string (Kd.R_reads' HO_y1.out).2.2 1 pw1 qw1
        obtain rfl : adx2 = adw1 := (by injection ew1)
        (try simp only [show (1 : Int).toNat = 1 from rfl, Nat.reduceMul, Nat.reduceEqDiff, Go.Addr.add, ↓reduceIte] at hxw1)
        have qiw1 : (1 < t102.length) = True := eq_true (by omega)
        (try rw [show ((1 : Int)).toNat = 1 from rfl] at hxw1)
        have hnw1 : adx2.block ≠ gbx1 := Kd.own_blk (Kd.R_ne HO_y1.out BKx1.out (by decide))
        have hnw2 : adx2.block ≠ gbx1 := Kd.own_blk (Kd.R_ne HO_y1.out BKx1.out (by decide))
        have hnw3 : adx2.block ≠ gbx1 := Kd.own_blk (Kd.R_ne HO_y1.out BKx1.out (by decide))
        replace hxw1 := (cell_far (p := ⟨gbx1, 0, none⟩) (by first | (rw [add_block]; exact hnw1) | (show (Addr.add _ _).block ≠ _; rw [add_block]; exact hnw1) | exact hnw1) (.int .i64 x6_1)).trans hxw1
        replace hxw1 := (cell_far (p := ⟨gbx1, 1, none⟩) (by first | (rw [add_block]; exact hnw2) | (show (Addr.add _ _).block ≠ _; rw [add_block]; exact hnw2) | exact hnw2) (.int .i64 0)).trans hxw1
        replace hxw1 := (cell_far (p := ⟨gbx1, 2, none⟩) (by first | (rw [add_block]; exact hnw3) | (show (Addr.add _ _).block ≠ _; rw [add_block]; exact hnw3) | exact hnw3) (.int .i64 0)).trans hxw1
        (try have hy111_0 := fun (n_ : Nat) => (show (((((wx1.drewN n_).setCell ⟨gbx1, 0, none⟩ (.int .i64 x6_1)).setCell ⟨gbx1, 1, none⟩ (.int .i64 0)).setCell ⟨gbx1, 2, none⟩ (.int .i64 0))).cell? _ = some _ from hxw1))
        clear hnw1
        clear hnw2
        clear hnw3
        replace pw1 := eq_true pw1
        replace qw1 := eq_true qw1
        go_wp2_with (first | (go_at_call 29; (with_reducible refine (spec_Number.calls _ _ _ _ _ A19.out).mono ?_); rintro e ww1 ⟨rfl, hb⟩; replace HO_y1 := aM (Kd.R_below (rF HO_y1.out BKx1.out) hb); replace HO_y2 := aM (Kd.R_below (rF HO_y2.out BKx1.out) hb); replace BKz1 := aF BKz1 hb; replace BKx1 := aM (blk_below (g := gbx1) (o := .cells #[.int .i64 x6_1, .int .i64 0, .int .i64 0] 23 (0, 0)) (bP BKx1.out) hb); replace HB := aS HB hb; clear hb; refine Stop.out ?_))
        refine ⟨?_⟩
        by_cases c21 : t114 = true
        · subst c21
          rw [if_pos rfl] at H
          have H' := aM H
          clear H
          go_wp2_with (first | (go_at_call 30; (with_reducible refine (spec_l4Key.calls _ _ _ A20.out).mono ?_); rintro e w' ⟨rfl, ⟨nd, rfl⟩⟩; (try first | exact ⟨rfl, _, World.drewN_drewN _ _ _⟩ | exact ⟨rfl, _, Eq.trans (World.drewN_drewN _ _ _) (congrArg (World.drewN _) (Nat.add_assoc _ _ _))⟩); have hnbw1 := NBx2.out; have hncw1 := NBx1.out; obtain ⟨hczw1, hczw2, hczw3, hfzw1, hfzw2, hfzw3⟩ := cZ3 BKx1.out))
          repeat (go_quiet (fail); try go_wp2_with (first | (go_at_call 29; (with_reducible refine (spec_Number.calls _ _ _ _ _ A19.out).mono ?_); rintro e ww1 ⟨rfl, hb⟩; replace HO_y1 := aM (Kd.R_below (rF HO_y1.out BKx1.out) hb); replace HO_y2 := aM (Kd.R_below (rF HO_y2.out BKx1.out) hb); replace BKz1 := aF BKz1 hb; replace BKx1 := aM (blk_below (g := gbx1) (o := .cells #[.int .i64 x6_1, .int .i64 0, .int .i64 0] 23 (0, 0)) (bP BKx1.out) hb); replace HB := aS HB hb; clear hb) | (go_at_call 30; (with_reducible refine (spec_l4Key.calls _ _ _ A20.out).mono ?_); rintro e w' ⟨rfl, ⟨nd, rfl⟩⟩; (try first | exact ⟨rfl, _, World.drewN_drewN _ _ _⟩ | exact ⟨rfl, _, Eq.trans (World.drewN_drewN _ _ _) (congrArg (World.drewN _) (Nat.add_assoc _ _ _))⟩); have hnbw1 := NBx2.out; have hncw1 := NBx1.out; obtain ⟨hczw1, hczw2, hczw3, hfzw1, hfzw2, hfzw3⟩ := cZ3 BKx1.out)))
          go_meet
          case rel => exact ⟨_, (t112), (0), H', ⟨by have := HKy1.out; first | omega | exact Nat.le_refl _⟩, ⟨(rT (h := by exact Kd.R_mono (Kd.R_far (p := ⟨gbx1, 1, none⟩) (Kd.R_types HO_y1.out BKx1.out (by decide)) (fun _ hk => hk.2) (.int .i64 t112)) (fun _ hk => hk.1)))⟩, ⟨(rT (h := by exact Kd.R_mono (Kd.R_far (p := ⟨gbx1, 1, none⟩) (Kd.R_types HO_y2.out BKx1.out (by decide)) (fun _ hk => hk.2) (.int .i64 t112)) (fun _ hk => hk.1)))⟩, ⟨(bF BKz1.out)⟩, ⟨(bP BKx1.out)⟩, ⟨(hX HB.out)⟩⟩
        replace c21 := Bool.eq_false_iff.mpr c21
        subst c21
        rw [if_neg nft] at H
        go_wp2_with (first | (go_at_call 30; (with_reducible refine (spec_l4Key.calls _ _ _ A20.out).mono ?_); rintro e w' ⟨rfl, ⟨nd, rfl⟩⟩; (try first | exact ⟨rfl, _, World.drewN_drewN _ _ _⟩ | exact ⟨rfl, _, Eq.trans (World.drewN_drewN _ _ _) (congrArg (World.drewN _) (Nat.add_assoc _ _ _))⟩); have hnbw1 := NBx2.out; have hncw1 := NBx1.out; obtain ⟨hczw1, hczw2, hczw3, hfzw1, hfzw2, hfzw3⟩ := cZ3 BKx1.out; refine Stop.out ?_))
        refine ⟨?_⟩
        by_cases c25 : x6_1 = 6
        case neg =>
          rw [if_neg c25] at H
          obtain ⟨c25b0, c25b1⟩ := eqF c25
          have H' := aM H
          clear H
          go_wp2
          repeat (go_quiet (fail); try go_wp2_with (first | (go_at_call 29; (with_reducible refine (spec_Number.calls _ _ _ _ _ A19.out).mono ?_); rintro e ww1 ⟨rfl, hb⟩; replace HO_y1 := aM (Kd.R_below (rF HO_y1.out BKx1.out) hb); replace HO_y2 := aM (Kd.R_below (rF HO_y2.out BKx1.out) hb); replace BKz1 := aF BKz1 hb; replace BKx1 := aM (blk_below (g := gbx1) (o := .cells #[.int .i64 x6_1, .int .i64 0, .int .i64 0] 23 (0, 0)) (bP BKx1.out) hb); replace HB := aS HB hb; clear hb) | (go_at_call 30; (with_reducible refine (spec_l4Key.calls _ _ _ A20.out).mono ?_); rintro e w' ⟨rfl, ⟨nd, rfl⟩⟩; (try first | exact ⟨rfl, _, World.drewN_drewN _ _ _⟩ | exact ⟨rfl, _, Eq.trans (World.drewN_drewN _ _ _) (congrArg (World.drewN _) (Nat.add_assoc _ _ _))⟩); have hnbw1 := NBx2.out; have hncw1 := NBx1.out; obtain ⟨hczw1, hczw2, hczw3, hfzw1, hfzw2, hfzw3⟩ := cZ3 BKx1.out)))
          go_meet
          case rel => exact ⟨_, (0), (t112), H', ⟨by have := HKy1.out; first | omega | exact Nat.le_refl _⟩, ⟨(rT (h := by exact Kd.R_mono (Kd.R_far (p := ⟨gbx1, 2, none⟩) (Kd.R_types HO_y1.out BKx1.out (by decide)) (fun _ hk => hk.2) (.int .i64 t112)) (fun _ hk => hk.1)))⟩, ⟨(rT (h := by exact Kd.R_mono (Kd.R_far (p := ⟨gbx1, 2, none⟩) (Kd.R_types HO_y2.out BKx1.out (by decide)) (fun _ hk => hk.2) (.int .i64 t112)) (fun _ hk => hk.1)))⟩, ⟨(bF BKz1.out)⟩, ⟨(bP BKx1.out)⟩, ⟨(hX HB.out)⟩⟩
        rw [if_pos c25] at H
        obtain ⟨c25b0, c25b1⟩ := eqT c25
        clear c25
        have H' := aM H
        clear H
        go_wp2
        repeat (go_quiet (fail); try go_wp2_with (first | (go_at_call 29; (with_reducible refine (spec_Number.calls _ _ _ _ _ A19.out).mono ?_); rintro e ww1 ⟨rfl, hb⟩; replace HO_y1 := aM (Kd.R_below (rF HO_y1.out BKx1.out) hb); replace HO_y2 := aM (Kd.R_below (rF HO_y2.out BKx1.out) hb); replace BKz1 := aF BKz1 hb; replace BKx1 := aM (blk_below (g := gbx1) (o := .cells #[.int .i64 x6_1, .int .i64 0, .int .i64 0] 23 (0, 0)) (bP BKx1.out) hb); replace HB := aS HB hb; clear hb) | (go_at_call 30; (with_reducible refine (spec_l4Key.calls _ _ _ A20.out).mono ?_); rintro e w' ⟨rfl, ⟨nd, rfl⟩⟩; (try first | exact ⟨rfl, _, World.drewN_drewN _ _ _⟩ | exact ⟨rfl, _, Eq.trans (World.drewN_drewN _ _ _) (congrArg (World.drewN _) (Nat.add_assoc _ _ _))⟩); have hnbw1 := NBx2.out; have hncw1 := NBx1.out; obtain ⟨hczw1, hczw2, hczw3, hfzw1, hfzw2, hfzw3⟩ := cZ3 BKx1.out)))
        go_meet
        case rel => exact ⟨_, (t112), (0), H', ⟨by have := HKy1.out; first | omega | exact Nat.le_refl _⟩, ⟨(rT (h := by exact Kd.R_mono (Kd.R_far (p := ⟨gbx1, 1, none⟩) (Kd.R_types HO_y1.out BKx1.out (by decide)) (fun _ hk => hk.2) (.int .i64 t112)) (fun _ hk => hk.1)))⟩, ⟨(rT (h := by exact Kd.R_mono (Kd.R_far (p := ⟨gbx1, 1, none⟩) (Kd.R_types HO_y2.out BKx1.out (by decide)) (fun _ hk => hk.2) (.int .i64 t112)) (fun _ hk => hk.1)))⟩, ⟨(bF BKz1.out)⟩, ⟨(bP BKx1.out)⟩, ⟨(hX HB.out)⟩⟩
      case rest =>
        clear HC11
        try clear p1
        try clear q1
        try clear hx1
        try clear qi1
        try clear p2
        try clear c7
        try clear c7b0
        try clear c8
        try clear c8b0
        try clear c9
        try clear c9b0
        try clear c9b1
        try clear c10
        try clear c10b0
        try clear c10b1
        try clear p10
        try clear q10
        try clear hx10
        try clear qi10
        try clear p11
        try clear q11
        try clear hx11
        try clear qi11
        try clear hczx1 hczx2 hczx3 hfzx1 hfzx2 hfzx3
        try clear hxx1
        try clear hxx2
        try clear hx111_0
        try clear px1
        try clear px2
        try clear p111
        try clear qx1
        try clear qx2
        try clear q111
        obtain ⟨kq, x111001_10, x111002_10, HA, HJw1, HO_y1, HO_y2, BKz1, BKx1, HB⟩ := hcut
        cases kq with
        | zero => exact absurd HA.out (by simp [spec_OpOf.j1])
        | succ kj10 =>
          have H := HA.out
          clear HA
          simp only [spec_OpOf.j1] at H
          have HC32 := aM H
          clear H
          go_upto_if 51 with (fail)
          repeat (go_quiet (fail); go_upto_if 51 with (fail))
          go_cut [] (fun wc => ∃ (kq : Nat) (x111002_31 : Int), Aside0 (spec_OpOf.j2 kq a0 t102 t105 x6_1 x6_1 x111001_10 x111002_31 = some (r1, r2, r3, r4)) ∧ Aside0 (kq ≤ kj10) ∧ Aside0 (Kd.R Kd.string 9 wc w.heap.size (fun k_ => some k_ ≠ ((.slice (some adx1) t105.length cox1) : Value).ownBlock) (.slice (some adx2) t102.length cox2) t102) ∧ Aside0 (Kd.R Kd.string 9 wc w.heap.size (fun k_ => some k_ ≠ ((.slice (some adx2) t102.length cox2) : Value).ownBlock) (.slice (some adx1) t105.length cox1) t105) ∧ Aside0 (wc.heap[gbz1]? = some (.cells #[.int .i64 x102000_1, .int .i64 x102001_1, .int .i64 x102002_1] 23 (0, 0))) ∧ Aside0 (wc.heap[gbx1]? = some (.cells #[.int .i64 x6_1, .int .i64 x111001_10, .int .i64 x111002_31] 23 (0, 0))) ∧ Aside0 (Below w.heap.size w wc))
          case first =>
            have H := HC32.out
            clear HC32
            by_cases c33 : (t102.length : Int) > 2
            case neg =>
              rw [if_neg c33] at H
              have c33b0 := decide_eq_false c33
              have c33b1 : decide (2 < t102.length) = false := decide_eq_false (by omega)
              clear c33
              (first | rw [c33b0] | (simp only [i64_w, i32_w]; rw [c33b0]) | skip)
              have H' := aM H
              clear H
              go_wp2
              repeat (go_quiet (fail); try go_wp2)
              go_meet
              case rel => exact ⟨_, (x111002_10), H', ⟨by have := HKy1.out; have := HJw1.out; first | omega | exact Nat.le_refl _⟩, ⟨(rX HO_y1.out)⟩, ⟨(rX HO_y2.out)⟩, ⟨(bX BKz1.out)⟩, ⟨(bX BKx1.out)⟩, ⟨(hX HB.out)⟩⟩
            rw [if_pos c33] at H
            have c33b0 := decide_eq_true c33
            have c33b1 : decide (2 < t102.length) = true := decide_eq_true (by omega)
            clear c33
            (first | rw [c33b0] | (simp only [i64_w, i32_w]; rw [c33b0]) | skip)
            replace H := ifP H; obtain ⟨c34, H⟩ := H
            have c34b0 := decide_eq_true c34
            have c34b1 : decide (2 < t102.length) = true := decide_eq_true (by omega)
            clear c34
            replace H := bE H; obtain ⟨⟨t116, t117⟩, A35, H⟩ := H
            try dsimp only at H
            have H' := aM H
            clear H
            have pu1 : 0 ≤ (2 : Int) := (by omega)
            have qu1 : 2 < (t102.length : Int) := odA
            obtain ⟨adu1, eu1, hxu1⟩ := Kd.at_string (Kd.R_reads' HO_y1.out).2.2 2 pu1 qu1
            obtain rfl : adx2 = adu1 := (by injection eu1)
            (try simp only [show (2 : Int).toNat = 2 from rfl, Nat.reduceMul, Nat.reduceEqDiff, Go.Addr.add, ↓reduceIte] at hxu1)
            have qiu1 : (2 < t102.length) = True := eq_true (by omega)
            (try rw [show ((2 : Int)).toNat = 2 from rfl] at hxu1)
            replace pu1 := eq_true pu1
            replace qu1 := eq_true qu1
            go_wp2_with (first | (go_at_call 29; (with_reducible refine (spec_Number.calls _ _ _ _ _ A35.out).mono ?_); rintro e wu1 ⟨rfl, hb⟩; replace HO_y1 := aQ HO_y1 hb; replace HO_y2 := aQ HO_y2 hb; replace BKz1 := aB BKz1 hb; replace BKx1 := aB BKx1 hb; replace HB := aS HB hb; clear hb; have hnbu1 := NBx2.out; have hncu1 := NBx1.out; obtain ⟨hczu1, hczu2, hczu3, hfzu1, hfzu2, hfzu3⟩ := cZ3 BKx1.out))
            repeat (go_quiet (fail); try go_wp2_with (first | (go_at_call 29; (with_reducible refine (spec_Number.calls _ _ _ _ _ A35.out).mono ?_); rintro e wu1 ⟨rfl, hb⟩; replace HO_y1 := aQ HO_y1 hb; replace HO_y2 := aQ HO_y2 hb; replace BKz1 := aB BKz1 hb; replace BKx1 := aB BKx1 hb; replace HB := aS HB hb; clear hb; have hnbu1 := NBx2.out; have hncu1 := NBx1.out; obtain ⟨hczu1, hczu2, hczu3, hfzu1, hfzu2, hfzu3⟩ := cZ3 BKx1.out)))
            go_meet
            case rel => exact ⟨_, (t116), H', ⟨by have := HKy1.out; have := HJw1.out; first | omega | exact Nat.le_refl _⟩, ⟨(rT (h := by exact Kd.R_mono (Kd.R_far (p := ⟨gbx1, 2, none⟩) (Kd.R_types HO_y1.out BKx1.out (by decide)) (fun _ hk => hk.2) (.int .i64 t116)) (fun _ hk => hk.1)))⟩, ⟨(rT (h := by exact Kd.R_mono (Kd.R_far (p := ⟨gbx1, 2, none⟩) (Kd.R_types HO_y2.out BKx1.out (by decide)) (fun _ hk => hk.2) (.int .i64 t116)) (fun _ hk => hk.1)))⟩, ⟨(bF BKz1.out)⟩, ⟨(bP BKx1.out)⟩, ⟨(hX HB.out)⟩⟩
          case rest =>
            clear HC32
            try clear p1
            try clear q1
            try clear hx1
            try clear qi1
            try clear p2
            try clear c7
            try clear c7b0
            try clear c8
            try clear c8b0
            try clear c9
            try clear c9b0
            try clear c9b1
            try clear c10
            try clear c10b0
            try clear c10b1
            try clear p10
            try clear q10
            try clear hx10
            try clear qi10
            try clear p11
            try clear q11
            try clear hx11
            try clear qi11
            try clear hczx1 hczx2 hczx3 hfzx1 hfzx2 hfzx3
            try clear hxx1
            try clear hxx2
            try clear hx111_0
            try clear hx115_0
            try clear px1
            try clear px2
            try clear p111
            try clear p115
            try clear qx1
            try clear qx2
            try clear q111
            try clear q115
            obtain ⟨kq, x111002_31, HA, HJu1, HO_y1, HO_y2, BKz1, BKx1, HB⟩ := hcut
            cases kq with
            | zero => exact absurd HA.out (by simp [spec_OpOf.j2])
            | succ kj31 =>
              have H := HA.out
              clear HA
              simp only [spec_OpOf.j2] at H
              replace H := bE H; obtain ⟨t118, A39, H⟩ := H
              by_cases c40 : t118 = true
              case neg =>
                replace c40 := Bool.eq_false_iff.mpr c40
                subst c40
                rw [if_neg nft] at H
                have H' := aM H
                clear H
                have hnbt1 := NBx2.out
                have hnct1 := NBx1.out
                obtain ⟨hczt1, hczt2, hczt3, hfzt1, hfzt2, hfzt3⟩ := cZ3 BKx1.out
                go_wp2_with (first | (go_at_call 31; (with_reducible refine (spec_OpOk.calls _ _ _ _ _ _ A39.out).mono ?_); rintro e wt1 ⟨rfl, hb⟩; replace HO_y1 := aQ HO_y1 hb; replace HO_y2 := aQ HO_y2 hb; replace BKz1 := aB BKz1 hb; replace BKx1 := aB BKx1 hb; replace HB := aS HB hb; clear hb))
                repeat (go_quiet (fail); try go_wp2_with (first | (go_at_call 31; (with_reducible refine (spec_OpOk.calls _ _ _ _ _ _ A39.out).mono ?_); rintro e wt1 ⟨rfl, hb⟩; replace HO_y1 := aQ HO_y1 hb; replace HO_y2 := aQ HO_y2 hb; replace BKz1 := aB BKz1 hb; replace BKx1 := aB BKx1 hb; replace HB := aS HB hb; clear hb)))
                go_roundg kj31
                case measure => have := HKy1.out; have := HJw1.out; have := HJu1.out; omega
                case rel => exact ⟨(wrap64 (x6_1 + 1)), (x102000_1), (x102001_1), (x102002_1), rS, H', ⟨by have := HKy1.out; have := HJw1.out; have := HJu1.out; omega⟩, ⟨(rX HO_y1.out)⟩, ⟨(rX HO_y2.out)⟩, ⟨(bX BKz1.out)⟩, ⟨(hX HB.out)⟩⟩
              subst c40
              rw [if_pos rfl] at H
              replace H := bE H; obtain ⟨t119, A41, H⟩ := H
              have hnbt1 := NBx2.out
              have hnct1 := NBx1.out
              obtain ⟨hczt1, hczt2, hczt3, hfzt1, hfzt2, hfzt3⟩ := cZ3 BKx1.out
              go_wp2_with (first | (go_at_call 31; (with_reducible refine (spec_OpOk.calls _ _ _ _ _ _ A39.out).mono ?_); rintro e wt1 ⟨rfl, hb⟩; replace HO_y1 := aQ HO_y1 hb; replace HO_y2 := aQ HO_y2 hb; replace BKz1 := aB BKz1 hb; replace BKx1 := aB BKx1 hb; replace HB := aS HB hb; clear hb; obtain ⟨hczt4, hczt5, hczt6, hfzt4, hfzt5, hfzt6⟩ := cZ3 BKx1.out; refine Stop.out ?_))
              refine ⟨?_⟩
              by_cases c42 : t119.toList = a0.toList
              case neg =>
                rw [if_neg c42] at H
                obtain ⟨c42b0, c42b1⟩ := eqF c42
                have H' := aM H
                clear H
                go_wp2_with (first | (go_at_call 21; (with_reducible refine (spec_OpText.calls _ _ _ _ _ _ A41.out).mono ?_); rintro e wt2 ⟨rfl, hb⟩; replace HO_y1 := aQ HO_y1 hb; replace HO_y2 := aQ HO_y2 hb; replace BKz1 := aB BKz1 hb; replace BKx1 := aB BKx1 hb; replace HB := aS HB hb; clear hb))
                repeat (go_quiet (fail); try go_wp2_with (first | (go_at_call 31; (with_reducible refine (spec_OpOk.calls _ _ _ _ _ _ A39.out).mono ?_); rintro e wt1 ⟨rfl, hb⟩; replace HO_y1 := aQ HO_y1 hb; replace HO_y2 := aQ HO_y2 hb; replace BKz1 := aB BKz1 hb; replace BKx1 := aB BKx1 hb; replace HB := aS HB hb; clear hb; obtain ⟨hczt4, hczt5, hczt6, hfzt4, hfzt5, hfzt6⟩ := cZ3 BKx1.out) | (go_at_call 21; (with_reducible refine (spec_OpText.calls _ _ _ _ _ _ A41.out).mono ?_); rintro e wt2 ⟨rfl, hb⟩; replace HO_y1 := aQ HO_y1 hb; replace HO_y2 := aQ HO_y2 hb; replace BKz1 := aB BKz1 hb; replace BKx1 := aB BKx1 hb; replace HB := aS HB hb; clear hb)))
                go_roundg kj31
                case measure => have := HKy1.out; have := HJw1.out; have := HJu1.out; omega
                case rel => exact ⟨(wrap64 (x6_1 + 1)), (x102000_1), (x102001_1), (x102002_1), rS, H', ⟨by have := HKy1.out; have := HJw1.out; have := HJu1.out; omega⟩, ⟨(rX HO_y1.out)⟩, ⟨(rX HO_y2.out)⟩, ⟨(bX BKz1.out)⟩, ⟨(hX HB.out)⟩⟩
              rw [if_pos c42] at H
              obtain ⟨c42b0, c42b1⟩ := eqT c42
              clear c42
              simp only [Option.some.injEq, Prod.mk.injEq] at H
              obtain ⟨rfl, rfl, rfl, rfl⟩ := H
              go_wp2_with (first | (go_at_call 21; (with_reducible refine (spec_OpText.calls _ _ _ _ _ _ A41.out).mono ?_); rintro e wt2 ⟨rfl, hb⟩; replace HO_y1 := aQ HO_y1 hb; replace HO_y2 := aQ HO_y2 hb; replace BKz1 := aB BKz1 hb; replace BKx1 := aB BKx1 hb; replace HB := aS HB hb; clear hb; obtain ⟨hczt7, hczt8, hczt9, hfzt7, hfzt8, hfzt9⟩ := cZ3 BKx1.out; obtain ⟨hczt10, hczt11, hczt12, hfzt10, hfzt11, hfzt12⟩ := cZ3 BKz1.out))
              repeat (go_quiet (fail); try go_wp2_with (first | (go_at_call 31; (with_reducible refine (spec_OpOk.calls _ _ _ _ _ _ A39.out).mono ?_); rintro e wt1 ⟨rfl, hb⟩; replace HO_y1 := aQ HO_y1 hb; replace HO_y2 := aQ HO_y2 hb; replace BKz1 := aB BKz1 hb; replace BKx1 := aB BKx1 hb; replace HB := aS HB hb; clear hb; obtain ⟨hczt4, hczt5, hczt6, hfzt4, hfzt5, hfzt6⟩ := cZ3 BKx1.out) | (go_at_call 21; (with_reducible refine (spec_OpText.calls _ _ _ _ _ _ A41.out).mono ?_); rintro e wt2 ⟨rfl, hb⟩; replace HO_y1 := aQ HO_y1 hb; replace HO_y2 := aQ HO_y2 hb; replace BKz1 := aB BKz1 hb; replace BKx1 := aB BKx1 hb; replace HB := aS HB hb; clear hb; obtain ⟨hczt7, hczt8, hczt9, hfzt7, hfzt8, hfzt9⟩ := cZ3 BKx1.out; obtain ⟨hczt10, hczt11, hczt12, hfzt10, hfzt11, hfzt12⟩ := cZ3 BKz1.out)))
              refine bodyPost_ret (results_ct rfl _ _ gbz1 23 #[.int .i64 x6_1, .int .i64 x111001_10, .int .i64 x111002_31] (0, 0) _ rfl (bP BKz1.out) Tryd.underlying23 rfl (by kernel_rfl)) rfl ?_
              exact ⟨rE, (hX HB.out)⟩
def spec_ProgOf.l0 : Nat → List (S23) → List ByteArray → Int → Option ((List (S23)) × Bool)
  | 0, _, _, _ => none
  | k + 1, x4, x5, x6 => if x6 < (x5.length : Int) then (if 0 ≤ x6 then ((spec_OpOf.f k (rdOf ByteArray.empty x5 x6)).bind fun bt108 => (if bt108.2.2.2 = true then (if (x5.length : Int) > 8 then (some ((([] : List (S23))), false)) else (if x4.length < 5864062014805 then (spec_ProgOf.l0 k (x4 ++ [(⟨bt108.1, bt108.2.1, bt108.2.2.1⟩ : S23)]) x5 (wrap64 (x6 + 1))) else (none))) else (some ((([] : List (S23))), false)))) else (none)) else (some (x4, true))
def spec_ProgOf.f (k : Nat) (a0 : ByteArray) : Option ((List (S23)) × Bool) := (some (([] : List (S23)) : List (S23))).bind fun y101 => (if a0.toList = ([] : List UInt8) then (some (y101, true)) else ((spec_Split.f k a0 59).bind fun t104 => (spec_ProgOf.l0 k y101 t104 0)))
set_option maxHeartbeats 8000000 in
set_option maxRecDepth 100000 in
theorem spec_ProgOf.calls (k : Nat) (a0 : ByteArray) (r1 : List (S23)) (r2 : Bool) (w : World) (h : spec_ProgOf.f k a0 = some (r1, r2)) :
    Calls Tryd.prog 9 #[.string a0] w fun e w' => ∃ v0_ : Value, e = .returned (.tuple #[v0_, .bool r2]) ∧ Kd.R k23 23 w' w.heap.size (fun _ => True) v0_ r1 ∧ Below w.heap.size w w' := by
  have hu23 := Tryd.underlying23
  have HB := aM (Below.refl w.heap.size w)
  have H := h
  unfold spec_ProgOf.f at H
  clear h
  replace H := sE H; obtain ⟨y101, Ny101, H⟩ := H
  go_enter Tryd.func9, Tryd.ntmps9
  go_wp2_with (first | ((with_reducible refine gate_dst (N := 9) rfl ?_); (try (refine gate_guard (by rfl) ?_; dsimp only)); refine Kd.R_lit k23 _ 23 ?hg (N := 9) ?hd (xs := ([] : List (S23))) (inner := []) (ok := fun _ => True) (okp := fun _ => True) ?hr ?hp (fun _ hk => hk) trivial (Below.refl _ _) (Nat.le_refl _) (by simp) ?_; (case hd => rfl); (case hg => rfl); (case hr => first | (go_simp; done) | (go_simp; rfl)); (case hp => exact (Reps.none _ _)); intro vz1 wz1 hoz1 hb hg_ hnew_; clear hg_ hnew_; (first | rw [← Ny101.out] at hoz1 | (simp only [Int.reduceToNat] at hoz1; rw [← Ny101.out] at hoz1)); have HOz1 := aM (Kd.R_lower hoz1 (below_size (hX HB.out))); replace HB := aS HB hb; clear hb hoz1; refine Stop.out ?_))
  refine ⟨?_⟩
  by_cases c2 : a0.toList = ([] : List UInt8)
  · rw [if_pos c2] at H
    obtain ⟨c2b0, c2b1⟩ := eqT c2
    clear c2
    simp only [Option.some.injEq, Prod.mk.injEq] at H
    obtain ⟨rfl, rfl⟩ := H
    go_wp2
    go_ret2
    exact ⟨_, rE, (rX HOz1.out), (hX HB.out)⟩
  rw [if_neg c2] at H
  obtain ⟨c2b0, c2b1⟩ := eqF c2
  replace H := bE H; obtain ⟨t104, A5, H⟩ := H
  have H' := aM H
  clear H
  go_wp2_with (first | (refine goesM 27 14 Tryd.func27 #[.string a0, .int .u8 59] ?_; refine (spec_Split.calls _ _ _ _ _ A5.out).mono ?_; rintro e wz2 ⟨vz2, rfl, hoz2, hb⟩; refine ⟨_, rfl, ?_⟩; have HOz2 := aM (Kd.R_lower hoz2 (below_size (hX HB.out))); replace HOz1 := aQ HOz1 hb; replace HB := aS HB hb; clear hb hoz2))
  go_loopg [4, 6] k (fun kq v4 v6 w' => ∃ (x4_1 : List (S23)) (x6_1 : Int), v6 = .int .i64 x6_1 ∧ Aside0 (spec_ProgOf.l0 kq x4_1 t104 x6_1 = some (r1, r2)) ∧ Aside0 (kq ≤ k) ∧ Aside0 (Kd.R k23 23 w' w.heap.size (fun _ => True) v4 x4_1) ∧ Aside0 (Kd.R Kd.string 9 w' w.heap.size (fun _ => True) vz2 t104) ∧ Aside0 (Below w.heap.size w w'))
  case atStart => exact ⟨(y101), (0), rS, H', ⟨Nat.le_refl _⟩, ⟨(rX HOz1.out)⟩, ⟨(rX HOz2.out)⟩, ⟨(hX HB.out)⟩⟩
  case round =>
    clear H'
    try clear c2
    try clear c2b0
    try clear c2b1
    try clear p2
    obtain ⟨x4_1, x6_1, rfl, HA, HKy1, HO_y1, HO_y2, HB⟩ := hrel
    cases gk with
    | zero => exact absurd HA.out (by simp [spec_ProgOf.l0])
    | succ k1 =>
      have H := HA.out
      clear HA
      simp only [spec_ProgOf.l0] at H
      by_cases c9 : x6_1 < (t104.length : Int)
      case neg =>
        rw [if_neg c9] at H
        have c9b0 := decide_eq_false c9
        clear c9
        simp only [Option.some.injEq, Prod.mk.injEq] at H
        obtain ⟨rfl, rfl⟩ := H
        obtain ⟨Aox1, cox1, eox1⟩ := Kd.R_slice HO_y2.out
        subst eox1
        go_wp2
        go_ret2
        exact ⟨_, rE, (rX HO_y1.out), (hX HB.out)⟩
      rw [if_pos c9] at H
      have c9b0 := decide_eq_true c9
      clear c9
      replace H := ifP H; obtain ⟨c10, H⟩ := H
      have c10b0 := decide_eq_true c10
      clear c10
      replace H := bE H; obtain ⟨⟨t108, t109, t110, t111⟩, A11, H⟩ := H
      try dsimp only at H
      by_cases c12 : t111 = true
      case neg =>
        replace c12 := Bool.eq_false_iff.mpr c12
        subst c12
        rw [if_neg nft] at H
        obtain ⟨y119, hy119⟩ : ∃ y_ : List (S23), y_ = (([] : List (S23))) := ⟨_, rfl⟩
        replace H : (some (y119, false)) = some (r1, r2) := yH H hy119
        have Ny119 := aM hy119
        clear hy119
        simp only [Option.some.injEq, Prod.mk.injEq] at H
        obtain ⟨rfl, rfl⟩ := H
        obtain ⟨Aox1, cox1, eox1⟩ := Kd.R_slice HO_y2.out
        subst eox1
        have px1 : 0 ≤ (x6_1 : Int) := odA
        have qx1 : x6_1 < (t104.length : Int) := odA
        obtain ⟨adx1, ex1, hxx1⟩ := Kd.at_string (Kd.R_reads' HO_y2.out).2.2 x6_1 px1 qx1
        cases ex1
        replace px1 := eq_true px1
        replace qx1 := eq_true qx1
        go_wp2_with (first | (refine goesM 6 26 Tryd.func6 #[.string (rdOf ByteArray.empty t104 x6_1)] ?_; refine (spec_OpOf.calls _ _ _ _ _ _ _ A11.out).mono ?_; rintro e wx1 ⟨rfl, hb⟩; refine ⟨_, rfl, ?_⟩; replace HO_y1 := aQ HO_y1 hb; replace HO_y2 := aQ HO_y2 hb; replace HB := aS HB hb; clear hb) | ((with_reducible refine gate_dst (N := 7) rfl ?_); (try (refine gate_guard (by rfl) ?_; dsimp only)); refine boxF 7 #[.int .i64 0, .int .i64 0, .int .i64 0] 23 ?_; intro gbx1 hg wx2 hbox hb; have BKx1 := aM (hbox); have GWx1 := aG hg HB; have GEx1 := aG hg HB; replace HO_y1 := aM (Kd.R_below (Kd.R_elderB (rX HO_y1.out) gbx1 (Nat.le_of_eq hg.symm)) hb); replace HO_y2 := aQ HO_y2 hb; replace HB := aS HB hb; clear hb hbox hg; obtain ⟨hczx1, hczx2, hczx3, hfzx1, hfzx2, hfzx3⟩ := cZ3 BKx1.out) | ((with_reducible refine gate_dst (N := 36) rfl ?_); (try (refine gate_guard (by rfl) ?_; dsimp only)); refine Kd.R_lit k23 _ 23 ?hg (N := 36) ?hd (xs := ([] : List (S23))) (inner := []) (ok := fun _ => True) (okp := fun _ => True) ?hr ?hp (fun _ hk => hk) trivial (Below.refl _ _) (Nat.le_refl _) (by simp) ?_; (case hd => rfl); (case hg => rfl); (case hr => first | (go_simp; done) | (go_simp; rfl)); (case hp => exact (Reps.none _ _)); intro vx1 wx3 hox1 hb hg_ hnew_; clear hg_ hnew_; (first | rw [← Ny119.out] at hox1 | (simp only [Int.reduceToNat] at hox1; rw [← Ny119.out] at hox1)); have HOx1 := aM (Kd.R_lower (Kd.R_newB (Kd.R_new' hox1 (Kd.R_lt (rT (h := by exact (Kd.R_mono (Kd.R_far (p := ⟨gbx1, 2, none⟩) (Kd.R_far (p := ⟨gbx1, 1, none⟩) (Kd.R_far (p := ⟨gbx1, 0, none⟩) (Kd.R_mono HO_y1.out (fun k_ hk => (⟨hk, hk.2⟩ : _ ∧ k_ ≠ gbx1))) (fun _ hk => hk.2) (.int .i64 t108)) (fun _ hk => hk.2) (.int .i64 t109)) (fun _ hk => hk.2) (.int .i64 t110)) (fun _ h_ => h_.1)))))) (g := gbx1) (o := .cells #[.int .i64 t108, .int .i64 t109, .int .i64 t110] 23 (0, 0)) (bP BKx1.out)) (below_size (hX HB.out))); replace HO_y1 := aM (Kd.R_elder' (rT (h := by exact (Kd.R_mono (Kd.R_far (p := ⟨gbx1, 2, none⟩) (Kd.R_far (p := ⟨gbx1, 1, none⟩) (Kd.R_far (p := ⟨gbx1, 0, none⟩) (Kd.R_mono HO_y1.out (fun k_ hk => (⟨hk, hk.2⟩ : _ ∧ k_ ≠ gbx1))) (fun _ hk => hk.2) (.int .i64 t108)) (fun _ hk => hk.2) (.int .i64 t109)) (fun _ hk => hk.2) (.int .i64 t110)) (fun _ h_ => h_.1)))) (Kd.R_base hox1) hb); replace HO_y2 := aM (Kd.R_below (rF HO_y2.out BKx1.out) hb); replace BKx1 := aM (blk_below (g := gbx1) (o := .cells #[.int .i64 t108, .int .i64 t109, .int .i64 t110] 23 (0, 0)) (bP BKx1.out) hb); replace HB := aS HB hb; clear hb hox1))
        go_ret2
        exact ⟨_, rE, (rT (h := by exact Kd.R_mono HOx1.out (fun _ hk => trivial))), (hX HB.out)⟩
      subst c12
      rw [if_pos rfl] at H
      obtain ⟨Aox1, cox1, eox1⟩ := Kd.R_slice HO_y2.out
      subst eox1
      have px1 : 0 ≤ (x6_1 : Int) := odA
      have qx1 : x6_1 < (t104.length : Int) := odA
      obtain ⟨adx1, ex1, hxx1⟩ := Kd.at_string (Kd.R_reads' HO_y2.out).2.2 x6_1 px1 qx1
      cases ex1
      replace px1 := eq_true px1
      replace qx1 := eq_true qx1
      go_wp2_with (first | (refine goesM 6 26 Tryd.func6 #[.string (rdOf ByteArray.empty t104 x6_1)] ?_; refine (spec_OpOf.calls _ _ _ _ _ _ _ A11.out).mono ?_; rintro e wx1 ⟨rfl, hb⟩; refine ⟨_, rfl, ?_⟩; replace HO_y1 := aQ HO_y1 hb; replace HO_y2 := aQ HO_y2 hb; replace HB := aS HB hb; clear hb) | ((with_reducible refine gate_dst (N := 7) rfl ?_); (try (refine gate_guard (by rfl) ?_; dsimp only)); refine boxF 7 #[.int .i64 0, .int .i64 0, .int .i64 0] 23 ?_; intro gbx1 hg wx2 hbox hb; have BKx1 := aM (hbox); have GWx1 := aG hg HB; have GEx1 := aG hg HB; replace HO_y1 := aM (Kd.R_below (Kd.R_elderB (rX HO_y1.out) gbx1 (Nat.le_of_eq hg.symm)) hb); replace HO_y2 := aQ HO_y2 hb; replace HB := aS HB hb; clear hb hbox hg; obtain ⟨hczx1, hczx2, hczx3, hfzx1, hfzx2, hfzx3⟩ := cZ3 BKx1.out; refine Stop.out ?_))
      refine ⟨?_⟩
      by_cases c13 : (t104.length : Int) > 8
      · rw [if_pos c13] at H
        have c13b0 := decide_eq_true c13
        have c13b1 : decide (8 < t104.length) = true := decide_eq_true (by omega)
        clear c13
        obtain ⟨y113, hy113⟩ : ∃ y_ : List (S23), y_ = (([] : List (S23))) := ⟨_, rfl⟩
        replace H : (some (y113, false)) = some (r1, r2) := yH H hy113
        have Ny113 := aM hy113
        clear hy113
        simp only [Option.some.injEq, Prod.mk.injEq] at H
        obtain ⟨rfl, rfl⟩ := H
        go_wp2_with (first | ((with_reducible refine gate_dst (N := 36) rfl ?_); (try (refine gate_guard (by rfl) ?_; dsimp only)); refine Kd.R_lit k23 _ 23 ?hg (N := 36) ?hd (xs := ([] : List (S23))) (inner := []) (ok := fun _ => True) (okp := fun _ => True) ?hr ?hp (fun _ hk => hk) trivial (Below.refl _ _) (Nat.le_refl _) (by simp) ?_; (case hd => rfl); (case hg => rfl); (case hr => first | (go_simp; done) | (go_simp; rfl)); (case hp => exact (Reps.none _ _)); intro vx1 wx3 hox1 hb hg_ hnew_; clear hg_ hnew_; (first | rw [← Ny113.out] at hox1 | (simp only [Int.reduceToNat] at hox1; rw [← Ny113.out] at hox1)); have HOx1 := aM (Kd.R_lower (Kd.R_newB (Kd.R_new' hox1 (Kd.R_lt (rT (h := by exact (Kd.R_mono (Kd.R_far (p := ⟨gbx1, 2, none⟩) (Kd.R_far (p := ⟨gbx1, 1, none⟩) (Kd.R_far (p := ⟨gbx1, 0, none⟩) (Kd.R_mono HO_y1.out (fun k_ hk => (⟨hk, hk.2⟩ : _ ∧ k_ ≠ gbx1))) (fun _ hk => hk.2) (.int .i64 t108)) (fun _ hk => hk.2) (.int .i64 t109)) (fun _ hk => hk.2) (.int .i64 t110)) (fun _ h_ => h_.1)))))) (g := gbx1) (o := .cells #[.int .i64 t108, .int .i64 t109, .int .i64 t110] 23 (0, 0)) (bP BKx1.out)) (below_size (hX HB.out))); replace HO_y1 := aM (Kd.R_elder' (rT (h := by exact (Kd.R_mono (Kd.R_far (p := ⟨gbx1, 2, none⟩) (Kd.R_far (p := ⟨gbx1, 1, none⟩) (Kd.R_far (p := ⟨gbx1, 0, none⟩) (Kd.R_mono HO_y1.out (fun k_ hk => (⟨hk, hk.2⟩ : _ ∧ k_ ≠ gbx1))) (fun _ hk => hk.2) (.int .i64 t108)) (fun _ hk => hk.2) (.int .i64 t109)) (fun _ hk => hk.2) (.int .i64 t110)) (fun _ h_ => h_.1)))) (Kd.R_base hox1) hb); replace HO_y2 := aM (Kd.R_below (rF HO_y2.out BKx1.out) hb); replace BKx1 := aM (blk_below (g := gbx1) (o := .cells #[.int .i64 t108, .int .i64 t109, .int .i64 t110] 23 (0, 0)) (bP BKx1.out) hb); replace HB := aS HB hb; clear hb hox1))
        go_ret2
        exact ⟨_, rE, (rT (h := by exact Kd.R_mono HOx1.out (fun _ hk => trivial))), (hX HB.out)⟩
      rw [if_neg c13] at H
      have c13b0 := decide_eq_false c13
      have c13b1 : decide (8 < t104.length) = false := decide_eq_false (by omega)
      clear c13
      replace H := ifP H; obtain ⟨c20, H⟩ := H
      have LMc20 := aM c20
      clear c20
      obtain ⟨y116, hy116⟩ : ∃ y_ : List (S23), y_ = (x4_1 ++ [(⟨t108, t109, t110⟩ : S23)]) := ⟨_, rfl⟩
      replace H : (spec_ProgOf.l0 k1 y116 t104 (wrap64 (x6_1 + 1))) = some (r1, r2) := yH H hy116
      have Ny116 := aM hy116
      clear hy116
      have H' := aM H
      clear H
      go_wp2_with (first | ((with_reducible refine gate_builtin (b := .append) (xs := #[.tmp 37, .tmp 39]) rfl ?_); (try (refine gate_guard (by rfl) ?_; dsimp only)); at_builtin; refine Kd.R_append k23 (w0 := w) w.heap.size rfl (.tmp 37) (.tmp 39) 28 23 (.agg #[(.int .i64 0), (.int .i64 0), (.int .i64 0)]) 24 rfl Tryd.underlying28 info23 rfl (by decide) (by omega) u4 x4_1 (⟨t108, t109, t110⟩ : S23) [.int .i64 t108, .int .i64 t109, .int .i64 t110] (fun k_ => k_ ≠ gbx1) (fun _ => False) rfl (by first | (go_simp; done) | (go_simp; rfl)) ?aP (fun _ hk => hk.elim) ?aF ?aO ?aB ?aS ?aL ?_; (case aP => exact k23_mkM _ _ _ (⟨t108, t109, t110⟩ : S23)); (case aB => exact (hX HB.out)); (case aF => exact (fun k_ hk => Kd.freshB (g := gbx1) (o := .cells #[.int .i64 t108, .int .i64 t109, .int .i64 t110] 23 (0, 0)) (bP BKx1.out) k_ hk)); (case aO => exact (rT (h := by exact Kd.R_mono (Kd.R_far (p := ⟨gbx1, 2, none⟩) (Kd.R_far (p := ⟨gbx1, 1, none⟩) (Kd.R_far (p := ⟨gbx1, 0, none⟩) (Kd.R_mono HO_y1.out (fun k_ hk => (⟨hk, hk.2⟩ : _ ∧ k_ ≠ gbx1))) (fun _ hk => hk.2) (.int .i64 t108)) (fun _ hk => hk.2) (.int .i64 t109)) (fun _ hk => hk.2) (.int .i64 t110)) (fun _ hk => hk.1.2)))); (case aS => exact (below_size (hX HB.out))); (case aL => have := LMc20.out; omega); intro vx1 wx3 ho hb hg hat; rw [← Ny116.out] at ho; have HOx1 := aM (ho); replace HO_y2 := aM (Kd.R_over' (rF HO_y2.out BKx1.out) (Kd.R_typed (rT (h := by exact (Kd.R_mono (Kd.R_far (p := ⟨gbx1, 2, none⟩) (Kd.R_far (p := ⟨gbx1, 1, none⟩) (Kd.R_far (p := ⟨gbx1, 0, none⟩) (Kd.R_mono HO_y1.out (fun k_ hk => (⟨hk, hk.2⟩ : _ ∧ k_ ≠ gbx1))) (fun _ hk => hk.2) (.int .i64 t108)) (fun _ hk => hk.2) (.int .i64 t109)) (fun _ hk => hk.2) (.int .i64 t110)) (fun _ h_ => h_.1))))) (by decide) hg); replace BKx1 := aM (blk_grown (g := gbx1) (o := .cells #[.int .i64 t108, .int .i64 t109, .int .i64 t110] 23 (0, 0)) (bP BKx1.out) hg (Kd.R_away HO_y1.out (fun _ hk => hk.2))); replace HB := aM (hb); clear HO_y1; clear ho hb hg hat))
      go_roundg k1
      case measure => have := HKy1.out; omega
      case rel => exact ⟨(y116), (wrap64 (x6_1 + 1)), rS, H', ⟨by have := HKy1.out; omega⟩, ⟨(rT (h := by exact Kd.R_mono HOx1.out (fun _ hk => trivial)))⟩, ⟨(rX HO_y2.out)⟩, ⟨(hX HB.out)⟩⟩
mutual
def laws_FnExactProgOf.j0 : Nat → ByteArray → List (S23) → Bool → List (S23) → Bool → Option (Bool)
  | 0, _, _, _, _, _ => none
  | k + 1, x0, x3, x4, x5, x32 => if x32 = true then (some false) else ((laws_markOpS.f k x5 1).bind fun bt110 => ((laws_heldOpS.f k bt110.2 1).bind fun t112 => (if t112 < 0 then (some false) else (if t112 = bt110.1 then ((impl_ProgOf.f k x0).bind fun bt113 => ((laws_eqOpS.f k bt113.1 x3).bind fun t117 => (if t117 = true then (laws_FnExactProgOf.j1 k bt110.2 bt110.1 (bt113.2 != x4)) else (laws_FnExactProgOf.j1 k bt110.2 bt110.1 true)))) else (some false)))))
def laws_FnExactProgOf.j1 : Nat → List (S23) → Int → Bool → Option (Bool)
  | 0, _, _, _ => none
  | k + 1, x5, x7, x57 => if x57 = true then (some false) else ((laws_heldOpS.f k x5 1).bind fun t118 => (if t118 < 0 then (some false) else (if t118 = x7 then (some true) else (some false))))
end
def laws_FnExactProgOf.f (k : Nat) (a0 : ByteArray) : Option (Bool) := if (a0.size : Int) > 1048576 then (some true) else ((spec_ProgOf.f k a0).bind fun bt101 => ((impl_ProgOf.f k a0).bind fun bt105 => ((laws_eqOpS.f k bt105.1 bt101.1).bind fun t109 => (if t109 = true then (laws_FnExactProgOf.j0 k a0 bt101.1 bt101.2 bt105.1 (bt105.2 != bt101.2)) else (laws_FnExactProgOf.j0 k a0 bt101.1 bt101.2 bt105.1 true)))))
set_option maxHeartbeats 8000000 in
set_option maxRecDepth 100000 in
theorem laws_FnExactProgOf.calls (k : Nat) (a0 : ByteArray) (r : Bool) (w : World) (h : laws_FnExactProgOf.f k a0 = some r) :
    Calls Tryd.prog 4 #[.string a0] w fun e w' => e = .returned (.bool r) ∧ Below w.heap.size w w' := by
  have HB := aM (Below.refl w.heap.size w)
  have H := h
  unfold laws_FnExactProgOf.f at H
  clear h
  go_enter Tryd.func4, Tryd.ntmps4
  by_cases c2 : (a0.size : Int) > 1048576
  · rw [if_pos c2] at H
    have c2b0 := decide_eq_true c2
    have c2b1 : decide (1048576 < a0.size) = true := decide_eq_true (by omega)
    clear c2
    obtain rfl := sI H
    go_wp2
    go_ret
    exact ⟨rE, (hX HB.out)⟩
  rw [if_neg c2] at H
  have c2b0 := decide_eq_false c2
  have c2b1 : decide (1048576 < a0.size) = false := decide_eq_false (by omega)
  clear c2
  replace H := bE H; obtain ⟨⟨t101, t102⟩, A3, H⟩ := H
  try dsimp only at H
  replace H := bE H; obtain ⟨⟨t105, t106⟩, A4, H⟩ := H
  try dsimp only at H
  have HC5 := aM H
  clear H
  go_upto_region 5 with (first | ((with_reducible refine gate_callee (f := 9) rfl ?_); refine goesM 9 16 Tryd.func9 #[.string a0] ?_; refine (spec_ProgOf.calls _ _ _ _ _ A3.out).mono ?_; rintro e wz1 ⟨vz1, rfl, hoz1, hb⟩; refine ⟨_, rfl, ?_⟩; have HOz1 := aM (Kd.R_lower hoz1 (below_size (hX HB.out))); replace HB := aS HB hb; clear hb hoz1) | ((with_reducible refine gate_callee (f := 10) rfl ?_); refine goesM 10 21 Tryd.func10 #[.string a0] ?_; refine (impl_ProgOf.calls _ _ _ _ _ A4.out).mono ?_; rintro e wz2 ⟨vz2, rfl, hoz1, hb⟩; refine ⟨_, rfl, ?_⟩; have HOz2 := aM (Kd.R_lower (Kd.R_new' hoz1 (Kd.R_lt (rX HOz1.out))) (below_size (hX HB.out))); replace HOz1 := aM (Kd.R_elder' (rX HOz1.out) (Kd.R_base hoz1) hb); replace HB := aS HB hb; clear hb hoz1))
  (try simp only [Act.put, List.setIfInBounds_toArray, List.set_cons_zero, List.set_cons_succ])
  go_cut [32] (fun vz3 wc => ∃ (kq : Nat) (x32_4 : Bool), vz3 = .bool x32_4 ∧ Aside0 (laws_FnExactProgOf.j0 kq a0 t101 t102 t105 x32_4 = some r) ∧ Aside0 (kq ≤ k) ∧ Aside0 (Kd.R k23 23 wc w.heap.size (fun k_ => some k_ ≠ (vz2 : Value).ownBlock) vz1 t101) ∧ Aside0 (Kd.R k23 23 wc w.heap.size (fun k_ => some k_ ≠ (vz1 : Value).ownBlock) vz2 t105) ∧ Aside0 (Below w.heap.size w wc))
  case first =>
    have H := HC5.out
    clear HC5
    replace H := bE H; obtain ⟨t109, A8, H⟩ := H
    by_cases c9 : t109 = true
    · subst c9
      rw [if_pos rfl] at H
      have H' := aM H
      clear H
      obtain ⟨Aoy1, coy1, eoy1⟩ := Kd.R_slice HOz2.out
      subst eoy1
      obtain ⟨Aoy2, coy2, eoy2⟩ := Kd.R_slice HOz1.out
      subst eoy2
      go_wp2_with (first | (refine goesM 11 26 Tryd.func11 #[.slice Aoy1 t105.length coy1, .slice Aoy2 t101.length coy2] ?_; refine (laws_eqOpS.calls _ _ _ _ _ _ _ _ _ (cX (Kd.R_reads' HOz2.out).2.2) ((Kd.R_reads' HOz2.out).2.1) (cX (Kd.R_reads' HOz1.out).2.2) ((Kd.R_reads' HOz1.out).2.1) A8.out).mono ?_; rintro e wy1 ⟨rfl, hb⟩; refine ⟨_, rfl, ?_⟩; replace HOz1 := aQ HOz1 hb; replace HOz2 := aQ HOz2 hb; replace HB := aS HB hb; clear hb))
      go_meet
      case rel => exact ⟨_, ((t106 != t102)), rS, H', ⟨by first | omega | exact Nat.le_refl _⟩, ⟨(rT (h := by exact Kd.R_mono HOz1.out (fun _ hk => hk.2)))⟩, ⟨(rT (h := by exact Kd.R_mono HOz2.out (fun _ hk => hk.2)))⟩, ⟨(hX HB.out)⟩⟩
    replace c9 := Bool.eq_false_iff.mpr c9
    subst c9
    rw [if_neg nft] at H
    have H' := aM H
    clear H
    obtain ⟨Aoy1, coy1, eoy1⟩ := Kd.R_slice HOz2.out
    subst eoy1
    obtain ⟨Aoy2, coy2, eoy2⟩ := Kd.R_slice HOz1.out
    subst eoy2
    go_wp2_with (first | (refine goesM 11 26 Tryd.func11 #[.slice Aoy1 t105.length coy1, .slice Aoy2 t101.length coy2] ?_; refine (laws_eqOpS.calls _ _ _ _ _ _ _ _ _ (cX (Kd.R_reads' HOz2.out).2.2) ((Kd.R_reads' HOz2.out).2.1) (cX (Kd.R_reads' HOz1.out).2.2) ((Kd.R_reads' HOz1.out).2.1) A8.out).mono ?_; rintro e wy1 ⟨rfl, hb⟩; refine ⟨_, rfl, ?_⟩; replace HOz1 := aQ HOz1 hb; replace HOz2 := aQ HOz2 hb; replace HB := aS HB hb; clear hb))
    go_meet
    case rel => exact ⟨_, (true), rS, H', ⟨by first | omega | exact Nat.le_refl _⟩, ⟨(rT (h := by exact Kd.R_mono HOz1.out (fun _ hk => hk.2)))⟩, ⟨(rT (h := by exact Kd.R_mono HOz2.out (fun _ hk => hk.2)))⟩, ⟨(hX HB.out)⟩⟩
  case rest =>
    clear HC5
    try clear c2
    try clear c2b0
    try clear c2b1
    try clear p2
    obtain ⟨kq, x32_4, rfl, HA, HJy1, HO_y1, HO_y2, HB⟩ := hcut
    cases kq with
    | zero => exact absurd HA.out (by simp [laws_FnExactProgOf.j0])
    | succ kj4 =>
      have H := HA.out
      clear HA
      simp only [laws_FnExactProgOf.j0] at H
      by_cases c16 : x32_4 = true
      · subst c16
        rw [if_pos rfl] at H
        obtain rfl := sI H
        go_wp2
        go_ret
        exact ⟨rE, (hX HB.out)⟩
      replace c16 := Bool.eq_false_iff.mpr c16
      subst c16
      rw [if_neg nft] at H
      replace H := bE H; obtain ⟨⟨t110, t111⟩, A17, H⟩ := H
      try dsimp only at H
      replace H := bE H; obtain ⟨t112, A18, H⟩ := H
      by_cases c19 : t112 < 0
      · rw [if_pos c19] at H
        have c19b0 := decide_eq_true c19
        clear c19
        obtain rfl := sI H
        obtain ⟨Aox1, cox1, eox1⟩ := Kd.R_slice HO_y2.out
        subst eox1
        go_wp2_with (first | (refine goesM 12 35 Tryd.func12 #[.slice Aox1 t105.length cox1, .int .i64 1] ?_; refine (laws_markOpS.calls kj4 (fun k_ => some k_ = (.slice Aox1 t105.length cox1 : Value).ownBlock) (.slice Aox1 t105.length cox1) t105 1 t110 t111 w _ (by repeat (first | (with_reducible first | exact HB.out | apply below_alloc | apply pw_below_drewN | apply below_drew1) | exact HB.out)) (by exact Kd.R_tight rfl HO_y2.out) A17.out).mono ?_; rintro e wx1 ⟨rfl, hyx1, hb, hkp⟩; refine ⟨_, rfl, ?_⟩; replace HO_y1 := aM (Kd.R_mono (ok' := fun k_ => some k_ ≠ (.slice Aox1 t105.length cox1 : Value).ownBlock) (Kd.R_keptB (HO_y1.out) hkp (fun k_ hk_ hs_ => (hk_) hs_)) (fun k_ hk_ => hk_.1)); replace HO_y2 := aM (Kd.R_reok rfl hyx1 (fun k_ e_ => HO_y2.out.1 k_ e_)); replace HB := aM (hb); clear hb hkp hyx1) | ((with_reducible refine gate_callee (f := 13) rfl ?_); refine goesL_ (some 38) rfl rfl Tryd.func13 (by kernel_rfl) rfl #[.slice Aox1 t111.length cox1, .int .i64 1] rfl (by (try simp only [List.map_toArray, List.map_cons, List.map_nil]); first | done | (rw [show t111.length = t105.length from (Kd.R_reads' HO_y2.out).1.symm] <;> rfl) | rfl | (simp only [List.length_drop, List.length_take]; rfl)) ?_; (with_reducible refine (laws_heldOpS.calls kj4 _ _ t111 1 t112 _ (cX (Kd.R_reads' HO_y2.out).2.2) (by rw [show t111.length = t105.length from (Kd.R_reads' HO_y2.out).1.symm]; exact (Kd.R_reads' HO_y2.out).2.1) A18.out).mono ?_); rintro e w' ⟨rfl, ⟨nd, rfl⟩⟩; refine ⟨_, rfl, ?_⟩))
        go_ret
        exact ⟨rE, (hX HB.out)⟩
      rw [if_neg c19] at H
      have c19b0 := decide_eq_false c19
      clear c19
      by_cases c22 : t112 = t110
      case neg =>
        rw [if_neg c22] at H
        obtain ⟨c22b0, c22b1⟩ := eqF c22
        obtain rfl := sI H
        obtain ⟨Aox1, cox1, eox1⟩ := Kd.R_slice HO_y2.out
        subst eox1
        go_wp2_with (first | (refine goesM 12 35 Tryd.func12 #[.slice Aox1 t105.length cox1, .int .i64 1] ?_; refine (laws_markOpS.calls kj4 (fun k_ => some k_ = (.slice Aox1 t105.length cox1 : Value).ownBlock) (.slice Aox1 t105.length cox1) t105 1 t110 t111 w _ (by repeat (first | (with_reducible first | exact HB.out | apply below_alloc | apply pw_below_drewN | apply below_drew1) | exact HB.out)) (by exact Kd.R_tight rfl HO_y2.out) A17.out).mono ?_; rintro e wx1 ⟨rfl, hyx1, hb, hkp⟩; refine ⟨_, rfl, ?_⟩; replace HO_y1 := aM (Kd.R_mono (ok' := fun k_ => some k_ ≠ (.slice Aox1 t105.length cox1 : Value).ownBlock) (Kd.R_keptB (HO_y1.out) hkp (fun k_ hk_ hs_ => (hk_) hs_)) (fun k_ hk_ => hk_.1)); replace HO_y2 := aM (Kd.R_reok rfl hyx1 (fun k_ e_ => HO_y2.out.1 k_ e_)); replace HB := aM (hb); clear hb hkp hyx1) | ((with_reducible refine gate_callee (f := 13) rfl ?_); refine goesL_ (some 38) rfl rfl Tryd.func13 (by kernel_rfl) rfl #[.slice Aox1 t111.length cox1, .int .i64 1] rfl (by (try simp only [List.map_toArray, List.map_cons, List.map_nil]); first | done | (rw [show t111.length = t105.length from (Kd.R_reads' HO_y2.out).1.symm] <;> rfl) | rfl | (simp only [List.length_drop, List.length_take]; rfl)) ?_; (with_reducible refine (laws_heldOpS.calls kj4 _ _ t111 1 t112 _ (cX (Kd.R_reads' HO_y2.out).2.2) (by rw [show t111.length = t105.length from (Kd.R_reads' HO_y2.out).1.symm]; exact (Kd.R_reads' HO_y2.out).2.1) A18.out).mono ?_); rintro e w' ⟨rfl, ⟨nd, rfl⟩⟩; refine ⟨_, rfl, ?_⟩))
        go_ret
        exact ⟨rE, (hX HB.out)⟩
      rw [if_pos c22] at H
      obtain ⟨c22b0, c22b1⟩ := eqT c22
      clear c22
      replace H := bE H; obtain ⟨⟨t113, t114⟩, A23, H⟩ := H
      try dsimp only at H
      have HC24 := aM H
      clear H
      obtain ⟨Aox1, cox1, eox1⟩ := Kd.R_slice HO_y2.out
      subst eox1
      go_upto_region 16 with (first | ((with_reducible refine gate_callee (f := 12) rfl ?_); refine goesM 12 35 Tryd.func12 #[.slice Aox1 t105.length cox1, .int .i64 1] ?_; refine (laws_markOpS.calls kj4 (fun k_ => some k_ = (.slice Aox1 t105.length cox1 : Value).ownBlock) (.slice Aox1 t105.length cox1) t105 1 t110 t111 w _ (by repeat (first | (with_reducible first | exact HB.out | apply below_alloc | apply pw_below_drewN | apply below_drew1) | exact HB.out)) (by exact Kd.R_tight rfl HO_y2.out) A17.out).mono ?_; rintro e wx1 ⟨rfl, hyx1, hb, hkp⟩; refine ⟨_, rfl, ?_⟩; replace HO_y1 := aM (Kd.R_mono (ok' := fun k_ => some k_ ≠ (.slice Aox1 t105.length cox1 : Value).ownBlock) (Kd.R_keptB (HO_y1.out) hkp (fun k_ hk_ hs_ => (hk_) hs_)) (fun k_ hk_ => hk_.1)); replace HO_y2 := aM (Kd.R_reok rfl hyx1 (fun k_ e_ => HO_y2.out.1 k_ e_)); replace HB := aM (hb); clear hb hkp hyx1) | ((with_reducible refine gate_callee (f := 13) rfl ?_); refine goesL_ (some 38) rfl rfl Tryd.func13 (by kernel_rfl) rfl #[.slice Aox1 t111.length cox1, .int .i64 1] rfl (by (try simp only [List.map_toArray, List.map_cons, List.map_nil]); first | done | (rw [show t111.length = t105.length from (Kd.R_reads' HO_y2.out).1.symm] <;> rfl) | rfl | (simp only [List.length_drop, List.length_take]; rfl)) ?_; (with_reducible refine (laws_heldOpS.calls kj4 _ _ t111 1 t112 _ (cX (Kd.R_reads' HO_y2.out).2.2) (by rw [show t111.length = t105.length from (Kd.R_reads' HO_y2.out).1.symm]; exact (Kd.R_reads' HO_y2.out).2.1) A18.out).mono ?_); rintro e w' ⟨rfl, ⟨nd, rfl⟩⟩; refine ⟨_, rfl, ?_⟩) | ((with_reducible refine gate_callee (f := 10) rfl ?_); refine goesM 10 46 Tryd.func10 #[.string a0] ?_; refine (impl_ProgOf.calls _ _ _ _ _ A23.out).mono ?_; rintro e wx2 ⟨vx1, rfl, hoz1, hb⟩; refine ⟨_, rfl, ?_⟩; have HOx1 := aM (Kd.R_lower (Kd.R_new' (Kd.R_new' hoz1 (Kd.R_lt (rX HO_y1.out))) (Kd.R_lt (rX HO_y2.out))) (below_size (hX HB.out))); replace HO_y1 := aM (Kd.R_elder' (rX HO_y1.out) (Kd.R_base hoz1) hb); replace HO_y2 := aM (Kd.R_elder' (rX HO_y2.out) (Kd.R_base hoz1) hb); replace HB := aS HB hb; clear hb hoz1))
      (try simp only [Act.put, List.setIfInBounds_toArray, List.set_cons_zero, List.set_cons_succ])
      go_cut [57] (fun vx2 wc => ∃ (kq : Nat) (x57_23 : Bool), vx2 = .bool x57_23 ∧ Aside0 (laws_FnExactProgOf.j1 kq t111 t110 x57_23 = some r) ∧ Aside0 (kq ≤ kj4) ∧ Aside0 (Kd.R k23 23 wc w.heap.size (fun _ => True) (.slice Aox1 t105.length cox1) t111) ∧ Aside0 (Below w.heap.size w wc))
      case first =>
        have H := HC24.out
        clear HC24
        replace H := bE H; obtain ⟨t117, A28, H⟩ := H
        by_cases c29 : t117 = true
        · subst c29
          rw [if_pos rfl] at H
          have H' := aM H
          clear H
          obtain ⟨Aow1, cow1, eow1⟩ := Kd.R_slice HOx1.out
          subst eow1
          obtain ⟨Aow2, cow2, eow2⟩ := Kd.R_slice HO_y1.out
          subst eow2
          go_wp2_with (first | (refine goesM 11 51 Tryd.func11 #[.slice Aow1 t113.length cow1, .slice Aow2 t101.length cow2] ?_; refine (laws_eqOpS.calls _ _ _ _ _ _ _ _ _ (cX (Kd.R_reads' HOx1.out).2.2) ((Kd.R_reads' HOx1.out).2.1) (cX (Kd.R_reads' HO_y1.out).2.2) ((Kd.R_reads' HO_y1.out).2.1) A28.out).mono ?_; rintro e ww1 ⟨rfl, hb⟩; refine ⟨_, rfl, ?_⟩; replace HO_y1 := aQ HO_y1 hb; replace HO_y2 := aQ HO_y2 hb; replace HOx1 := aQ HOx1 hb; replace HB := aS HB hb; clear hb))
          go_meet
          case rel => exact ⟨_, ((t114 != t102)), rS, H', ⟨by have := HJy1.out; first | omega | exact Nat.le_refl _⟩, ⟨(rT (h := by exact Kd.R_mono HO_y2.out (fun _ hk => trivial)))⟩, ⟨(hX HB.out)⟩⟩
        replace c29 := Bool.eq_false_iff.mpr c29
        subst c29
        rw [if_neg nft] at H
        have H' := aM H
        clear H
        obtain ⟨Aow1, cow1, eow1⟩ := Kd.R_slice HOx1.out
        subst eow1
        obtain ⟨Aow2, cow2, eow2⟩ := Kd.R_slice HO_y1.out
        subst eow2
        go_wp2_with (first | (refine goesM 11 51 Tryd.func11 #[.slice Aow1 t113.length cow1, .slice Aow2 t101.length cow2] ?_; refine (laws_eqOpS.calls _ _ _ _ _ _ _ _ _ (cX (Kd.R_reads' HOx1.out).2.2) ((Kd.R_reads' HOx1.out).2.1) (cX (Kd.R_reads' HO_y1.out).2.2) ((Kd.R_reads' HO_y1.out).2.1) A28.out).mono ?_; rintro e ww1 ⟨rfl, hb⟩; refine ⟨_, rfl, ?_⟩; replace HO_y1 := aQ HO_y1 hb; replace HO_y2 := aQ HO_y2 hb; replace HOx1 := aQ HOx1 hb; replace HB := aS HB hb; clear hb))
        go_meet
        case rel => exact ⟨_, (true), rS, H', ⟨by have := HJy1.out; first | omega | exact Nat.le_refl _⟩, ⟨(rT (h := by exact Kd.R_mono HO_y2.out (fun _ hk => trivial)))⟩, ⟨(hX HB.out)⟩⟩
      case rest =>
        clear HC24
        try clear c2
        try clear c2b0
        try clear c2b1
        try clear p2
        try clear c16
        try clear c19
        try clear c19b0
        try clear c22
        try clear c22b0
        try clear c22b1
        obtain ⟨kq, x57_23, rfl, HA, HJw1, HO_y2, HB⟩ := hcut
        have hlw1 := (Kd.R_reads' HO_y2.out).1
        rw [hlw1] at HO_y2
        (try simp only [hlw1])
        cases kq with
        | zero => exact absurd HA.out (by simp [laws_FnExactProgOf.j1])
        | succ kj23 =>
          have H := HA.out
          clear HA
          simp only [laws_FnExactProgOf.j1] at H
          by_cases c36 : x57_23 = true
          · subst c36
            rw [if_pos rfl] at H
            obtain rfl := sI H
            go_wp2
            go_ret
            exact ⟨rE, (hX HB.out)⟩
          replace c36 := Bool.eq_false_iff.mpr c36
          subst c36
          rw [if_neg nft] at H
          replace H := bE H; obtain ⟨t118, A37, H⟩ := H
          go_wp2_with (first | (refine goesM 13 60 Tryd.func13 #[.slice Aox1 t111.length cox1, .int .i64 1] ?_; refine (laws_heldOpS.calls _ _ _ _ _ _ _ (cX (Kd.R_reads' HO_y2.out).2.2) ((Kd.R_reads' HO_y2.out).2.1) A37.out).mono ?_; rintro e w' ⟨rfl, ⟨nd, rfl⟩⟩; refine ⟨_, rfl, ?_⟩; refine Stop.out ?_))
          refine ⟨?_⟩
          by_cases c38 : t118 < 0
          · rw [if_pos c38] at H
            have c38b0 := decide_eq_true c38
            clear c38
            obtain rfl := sI H
            go_wp2
            go_ret
            exact ⟨rE, (hX HB.out)⟩
          rw [if_neg c38] at H
          have c38b0 := decide_eq_false c38
          clear c38
          by_cases c39 : t118 = t110
          case neg =>
            rw [if_neg c39] at H
            obtain ⟨c39b0, c39b1⟩ := eqF c39
            obtain rfl := sI H
            go_wp2
            go_ret
            exact ⟨rE, (hX HB.out)⟩
          rw [if_pos c39] at H
          obtain ⟨c39b0, c39b1⟩ := eqT c39
          clear c39
          obtain rfl := sI H
          go_wp2
          go_ret
          exact ⟨rE, (hX HB.out)⟩
end Go.Proofs.YtafcfhgdblefgaaDoor.P
namespace Go.Proofs.YtafcfhgdblefgaaDoorZ
open Go.RowKit Go.Proofs.YtafcfhgdblefgaaDoorW.PrintWords Go.Proofs.YtafcfhgdblefgaaDoorW.PrintLast
def Opens {α : Type} (P : Program) (t : TypeId) (d : Kd α) (wf : α → Prop) : Prop :=
  ∀ (H : Type) (enc : TypeId × Value → H) (w : World) (fuel : Nat) (cs : List Value) (x : DataW H × List MemPlace),
    DataW.trod enc P w 0 (fun _ => true) true fuel t cs = some x → ∃ a, d.K w a cs ∧ wf a
theorem Opens.int {P : Program} {t : TypeId} {k : IntKind} (hu : P.underlying t = some (.int k)) : Opens P t (Kd.int k) (fun n => (Lit.int k n).wf = true) := by
  intro H enc w fuel cs x h
  obtain ⟨n, rfl, _, hw⟩ := DataW.trod_int hu h
  exact ⟨n, rfl, hw⟩
theorem Opens.bool {P : Program} {t : TypeId} (hu : P.underlying t = some .bool) : Opens P t Kd.bool (fun _ => True) := by
  intro H enc w fuel cs x h
  obtain ⟨n, rfl, _⟩ := DataW.trod_bool hu h
  exact ⟨n, rfl, trivial⟩
theorem Opens.string {P : Program} {t : TypeId} (hu : P.underlying t = some .string) : Opens P t Kd.string (fun s => s.size ≤ 9223372036854775807) := by
  intro H enc w fuel cs x h
  obtain ⟨n, rfl, _, hw⟩ := DataW.trod_string hu h
  exact ⟨n, rfl, by simpa [maxLen] using hw⟩
theorem exists_list {α : Type} (Q : Nat → α → Prop) : ∀ n, (∀ i, i < n → ∃ y, Q i y) → ∃ xs : List α, xs.length = n ∧ ∀ j p, xs[j]? = some p → Q j p
  | 0, _ => ⟨[], rfl, fun j p h => by simp at h⟩
  | n + 1, h => by
    obtain ⟨xs, hl, hx⟩ := exists_list Q n (fun i hi => h i (by omega))
    obtain ⟨y, hy⟩ := h n (by omega)
    refine ⟨xs ++ [y], by simp [hl], fun j p hj => ?_⟩
    by_cases hjn : j < n
    · rw [List.getElem?_append_left (by omega)] at hj
      exact hx j p hj
    · have hlt := (List.getElem?_eq_some_iff.1 hj).1
      rw [List.length_append, List.length_singleton, hl] at hlt
      obtain rfl : j = n := by omega
      rw [List.getElem?_append_right (by omega), hl, Nat.sub_self] at hj
      obtain rfl : y = p := by simpa using hj
      exact hy
theorem Opens.slice {α : Type} {P : Program} {t e : TypeId} {d : Kd α} {wf : α → Prop} (e' : Nat) (hu : P.underlying t = some (.slice e)) (hc : P.cellsOf e = d.sz) (he : Opens P e d wf) :
    Opens P t (Kd.slice e' d) (fun xs => xs.length ≤ 9223372036854775807 ∧ ∀ a ∈ xs, wf a) := by
  intro H enc w fuel cs x h
  rcases DataW.trod_slice hu h with ⟨rfl, _⟩ | ⟨a, len, cap, elems, rest, n, _, rfl, _, hb, hl, hm, hlen, hel, _, _⟩
  · exact ⟨[], ⟨none, 0, rfl, Nat.le_refl _, Kd.C_nil _ _⟩, by simp⟩
  · have each : ∀ i, i < len → ∃ y, wf y ∧ ∃ c, c.length = d.sz ∧ d.K w y c ∧ ∀ j u, c[j]? = some u → w.cell? (a.add (i * d.sz + j)) = some u := by
      intro i hi
      have h1 := hel i hi
      rw [List.getElem?_eq_getElem (by omega), hc, Option.bind_eq_some_iff] at h1
      obtain ⟨c, hcs, hy⟩ := h1
      obtain ⟨y, hK, hw⟩ := he _ _ _ _ _ _ hy
      refine ⟨y, hw, c, d.K_len hK, hK, fun j u hj => ?_⟩
      have h2 := World.cells?_some hcs
      rw [← Addr.add_add]
      have hjl := (List.getElem?_eq_some_iff.1 hj).1
      rw [← hj]
      exact (h2.2.2 j (by rw [← h2.2.1]; exact hjl))
    obtain ⟨xs, hxl, hxs⟩ := exists_list _ len each
    simp only [maxLen] at hm
    refine ⟨xs, ⟨some a, cap, by rw [hxl], by omega, rfl, by omega, fun _ => ⟨a, rfl, fun j p hj => ?_⟩⟩, by omega, fun y hy => ?_⟩
    · obtain ⟨_, c, hcl, hK, hcell⟩ := hxs j p hj
      exact ⟨c, hcl, hK, hcell⟩
    · obtain ⟨j, hj⟩ := List.getElem?_of_mem hy
      exact (hxs j y hj).1
def OpensF {α : Type} (P : Program) (fs : Array Field) (o : Nat) (d : Kd α) (wf : α → Prop) : Prop :=
  ∀ (H : Type) (enc : TypeId × Value → H) (w : World) (fuel : Nat) (cs : List Value) (xs : List (DataW H × List MemPlace)), cs.length = o + d.sz → xs.length = fs.size →
    (∀ (j : Nat) (f : Field), fs[j]? = some f → DataW.trod enc P w 0 (fun _ => true) true fuel f.type ((cs.drop f.offset).take (P.cellsOf f.type)) = xs[j]?) → ∃ a, d.K w a (cs.drop o) ∧ wf a
theorem OpensF.cons {α β : Type} {P : Program} {fs : Array Field} {o : Nat} {d : Kd α} {d' : Kd β} {wf : α → Prop} {wf' : β → Prop} (i : Nat) (f : Field) (hf : fs[i]? = some f) (ho : f.offset = o) (hc : P.cellsOf f.type = d.sz) (h : Opens P f.type d wf)
    (h' : OpensF P fs (o + d.sz) d' wf') : OpensF P fs o (Kd.pair d d') (fun x => wf x.1 ∧ wf' x.2) := by
  intro H enc w fuel cs xs hl hx hall
  have h1 := hall i f hf
  have hi : i < xs.length := by rw [hx]; exact (Array.getElem?_eq_some_iff.1 hf).1
  rw [List.getElem?_eq_getElem hi, ho, hc] at h1
  obtain ⟨a, hK, hw⟩ := h _ _ _ _ _ _ h1
  have hl' : cs.length = o + (d.sz + d'.sz) := hl
  obtain ⟨b, hK', hw'⟩ := h' H enc w fuel cs xs (by omega) hx hall
  refine ⟨(a, b), ⟨_, _, ?_, hK, hK'⟩, hw, hw'⟩
  rw [← List.drop_drop, List.take_append_drop]
theorem Opens.struct {α β : Type} {P : Program} {t : TypeId} {fs : Array Field} {d : Kd α} {wf : α → Prop} (f : β → α) (g : α → β) (hfg : ∀ a, f (g a) = a) (hu : P.underlying t = some (.struct fs)) (hc : P.cellsOf t = d.sz) (h : OpensF P fs 0 d wf) :
    Opens P t (Kd.iso d f) (fun b => wf (f b)) := by
  intro H enc w fuel cs x hx
  obtain ⟨xs, n, _, _, hl, hxl, hall⟩ := DataW.trod_struct hu hx
  obtain ⟨a, hK, hw⟩ := h H enc w n cs xs (by omega) hxl hall
  refine ⟨g a, ?_, ?_⟩
  · show d.K w (f (g a)) cs
    rw [hfg]; exact hK
  · show wf (f (g a))
    rw [hfg]; exact hw
end Go.Proofs.YtafcfhgdblefgaaDoorZ
namespace Go.Proofs.YtafcfhgdblefgaaDoor.P
open Go.RowKit Go.Proofs.YtafcfhgdblefgaaDoorW.PrintWords Go.Proofs.YtafcfhgdblefgaaDoorW.PrintLast Go.Proofs.YtafcfhgdblefgaaDoorZ
def PureFnExactProgOf : Prop := ∀ (x0 : ByteArray), x0.size ≤ 9223372036854775807 → ∃ k, laws_FnExactProgOf.f k x0 = some true
end Go.Proofs.YtafcfhgdblefgaaDoor.P
namespace Go.Proofs.YtafcfhgdblefgaaDoorW.PrintWords
section
variable {α : Type}
theorem Ev.shift {g : Nat → Option α} {r : α} (h : Ev (fun k => g (k + 1)) r) : Ev g r := Ev.step (fun _ => rfl) h
theorem Ev.val {a r : α} (h : a = r) : Ev (fun _ => some a) r := by subst h; exact Ev.now _
theorem Ev.to {g : Nat → Option α} {a r : α} (h : Ev g a) (e : a = r) : Ev g r := e ▸ h
theorem Ev.pos {p : Prop} [Decidable p] {g f : Nat → Option α} {r : α} (h : p) (hg : Ev g r) : Ev (fun k => if p then g k else f k) r := by
  simp only [if_pos h]; exact hg
theorem Ev.neg {p : Prop} [Decidable p] {g f : Nat → Option α} {r : α} (h : ¬ p) (hf : Ev f r) : Ev (fun k => if p then g k else f k) r := by
  simp only [if_neg h]; exact hf
theorem Ev.det {g : Nat → Option α} {a b : α} (h : Ev g a) (h' : Ev g b) : a = b := by
  obtain ⟨K, hK⟩ := h
  obtain ⟨L, hL⟩ := h'
  have h1 := hK (max K L) (Nat.le_max_left _ _)
  have h2 := hL (max K L) (Nat.le_max_right _ _)
  rw [h1] at h2
  exact Option.some.inj h2
end
end Go.Proofs.YtafcfhgdblefgaaDoorW.PrintWords
namespace Go.Proofs.YtafcfhgdblefgaaDoorZ
open Go.RowKit Go.Proofs.YtafcfhgdblefgaaDoorW.PrintWords
theorem back {n : Nat} {Q : Nat → Prop} (hn : Q n) (hs : ∀ i, i < n → Q (i + 1) → Q i) : ∀ i, i ≤ n → Q i := by
  intro i hi
  obtain ⟨d, rfl⟩ : ∃ d, n = i + d := ⟨n - i, by omega⟩
  clear hi
  induction d generalizing i with
  | zero => exact hn
  | succ d ih =>
    refine hs i (by omega) (ih (i + 1) ?_ ?_)
    · rw [show i + 1 + d = i + (d + 1) by omega]; exact hn
    · intro j hj; exact hs j (by omega)
theorem w64 {n : Int} (h1 : -9223372036854775808 ≤ n) (h2 : n < 9223372036854775808) : wrap64 n = n := by unfold wrap64; omega
theorem succ64 {i n : Nat} (h : i < n) (hn : n ≤ 9223372036854775807) : wrap64 ((i : Int) + 1) = ((i + 1 : Nat) : Int) := by
  rw [w64 (by omega) (by omega)]; simp
section
variable {τ σ : Type}
def ctl (ct : τ → Int) : List τ → Int
  | [] => 0
  | x :: xs => ct x + ctl ct xs
def mkl (ct : τ → Int) (mk : τ → Int → τ) : List τ → Int → List τ
  | [], _ => []
  | x :: xs, m => mk x m :: mkl ct mk xs (m + ct x)
theorem ctl_nonneg {ct : τ → Int} (h : ∀ x, 0 ≤ ct x) : ∀ l, 0 ≤ ctl ct l
  | [] => Int.le_refl 0
  | x :: xs => by have h1 := h x; have h2 := ctl_nonneg h xs; simp only [ctl]; omega
theorem mkl_length (ct : τ → Int) (mk : τ → Int → τ) : ∀ l m, (mkl ct mk l m).length = l.length
  | [], _ => rfl
  | x :: xs, m => by simp only [mkl, List.length_cons, mkl_length ct mk xs]
theorem get_mid (A : List τ) (x : τ) (B : List τ) : (A ++ x :: B)[A.length]? = some x := by
  rw [List.getElem?_append_right (Nat.le_refl _), Nat.sub_self]; rfl
theorem set_mid (A : List τ) (x y : τ) (B : List τ) : (A ++ x :: B).set A.length y = A ++ [y] ++ B := by
  rw [List.set_append_right _ _ (Nat.le_refl _), Nat.sub_self]; simp
theorem look_ev (xs : List τ) {ρ : Type} (r : ρ) {g : Nat → Int → Option ρ} (hend : Ev (fun k => g k (xs.length : Int)) r)
    (hstep : ∀ (i : Nat) (x : τ), xs[i]? = some x → i < xs.length → Ev (fun k => g k ((i + 1 : Nat) : Int)) r → Ev (fun k => g k (i : Int)) r) : Ev (fun k => g k 0) r := by
  refine back (n := xs.length) (Q := fun i => Ev (fun k => g k (i : Int)) r) hend (fun i hi h => ?_) 0 (Nat.zero_le _)
  exact hstep i xs[i] (List.getElem?_eq_getElem hi) hi h
theorem mark_ev (ct : τ → Int) (mk : τ → Int → τ) (hc : ∀ x, 0 ≤ ct x) (M : Int) {g : Nat → List τ → Int → Int → Option (Int × List τ)} (N : Nat) (hend : ∀ l m, l.length = N → Ev (fun k => g k l m (l.length : Int)) (m, l))
    (hstep : ∀ (l : List τ) (m : Int) (i : Nat) (x : τ) (r : Int × List τ), l.length = N → l[i]? = some x → i < l.length → 0 ≤ m → m + ct x ≤ M → Ev (fun k => g k (l.set i (mk x m)) (m + ct x) ((i + 1 : Nat) : Int)) r → Ev (fun k => g k l m (i : Int)) r) :
    ∀ l m, l.length = N → 0 ≤ m → m + ctl ct l ≤ M → Ev (fun k => g k l m 0) (m + ctl ct l, mkl ct mk l m) := by
  have key : ∀ (B A : List τ) m, (A ++ B).length = N → 0 ≤ m → m + ctl ct B ≤ M → Ev (fun k => g k (A ++ B) m (A.length : Int)) (m + ctl ct B, A ++ mkl ct mk B m) := by
    intro B
    induction B with
    | nil =>
      intro A m hN h0 h1
      have := hend (A ++ []) m hN
      simpa [ctl, mkl] using this
    | cons x B ih =>
      intro A m hN h0 h1
      have hcx := hc x
      have hcB := ctl_nonneg hc B
      simp only [ctl] at h1 ⊢
      have h2 := ih (A ++ [mk x m]) (m + ct x) (by simpa using hN) (by omega) (by omega)
      refine hstep (A ++ x :: B) m A.length x _ hN (get_mid A x B) (by simp) h0 (by omega) ?_
      rw [set_mid]
      rw [List.length_append, List.length_singleton] at h2
      refine h2.to ?_
      simp only [mkl, List.append_assoc, List.singleton_append]
      congr 1
      omega
  intro l m hN h0 h1
  exact key l [] m hN h0 h1
theorem held_ev (ct : τ → Int) (mk : τ → Int → τ) (hc : ∀ x, 0 ≤ ct x) (M : Int) {g : Nat → List τ → Int → Int → Option Int} (N : Nat) (hend : ∀ l m, l.length = N → Ev (fun k => g k l m (l.length : Int)) m)
    (hstep : ∀ (l : List τ) (m : Int) (i : Nat) (x : τ) (r : Int), l.length = N → l[i]? = some (mk x m) → i < l.length → 0 ≤ m → m + ct x ≤ M → Ev (fun k => g k l (m + ct x) ((i + 1 : Nat) : Int)) r → Ev (fun k => g k l m (i : Int)) r) :
    ∀ l m, l.length = N → 0 ≤ m → m + ctl ct l ≤ M → Ev (fun k => g k (mkl ct mk l m) m 0) (m + ctl ct l) := by
  have key : ∀ (B A : List τ) m, (A ++ mkl ct mk B m).length = N → 0 ≤ m → m + ctl ct B ≤ M → Ev (fun k => g k (A ++ mkl ct mk B m) m (A.length : Int)) (m + ctl ct B) := by
    intro B
    induction B with
    | nil =>
      intro A m hN h0 h1
      have := hend (A ++ []) m hN
      simpa [ctl, mkl] using this
    | cons x B ih =>
      intro A m hN h0 h1
      have hcx := hc x
      have hcB := ctl_nonneg hc B
      simp only [ctl, mkl] at h1 hN ⊢
      have h2 := ih (A ++ [mk x m]) (m + ct x) (by simpa using hN) (by omega) (by omega)
      refine hstep (A ++ mk x m :: mkl ct mk B (m + ct x)) m A.length x _ hN (get_mid A _ _) (by simp) h0 (by omega) ?_
      rw [List.length_append, List.length_singleton] at h2
      simp only [List.append_assoc, List.singleton_append] at h2
      exact h2.to (by omega)
  intro l m hN h0 h1
  exact key l [] m (by simpa [mkl_length] using hN) h0 h1
theorem ctl_const (c : Int) : ∀ l : List τ, ctl (fun _ => c) l = c * l.length
  | [] => by simp [ctl]
  | x :: xs => by simp only [ctl, ctl_const c xs, List.length_cons]; rw [Int.natCast_add, Int.mul_add]; omega
theorem getD_get {xs : List τ} {i : Nat} {x d : τ} (h : xs[i]? = some x) : xs.getD ((i : Int)).toNat d = x := by
  rw [Int.toNat_natCast, List.getD_eq_getElem?_getD, h]; rfl
end
end Go.Proofs.YtafcfhgdblefgaaDoorZ
namespace Go.Proofs.YtafcfhgdblefgaaDoor.P
open Go.RowKit Go.Proofs.YtafcfhgdblefgaaDoorW.PrintWords Go.Proofs.YtafcfhgdblefgaaDoorW.PrintLast Go.Proofs.YtafcfhgdblefgaaDoorZ
theorem digit_str {d : Int} (h0 : 0 ≤ d) (h1 : d ≤ 9) : strOfNums [(wrap64 (48 + d)) % 256] = ⟨#[UInt8.ofNat (48 + d.toNat)]⟩ := by
  have : d = 0 ∨ d = 1 ∨ d = 2 ∨ d = 3 ∨ d = 4 ∨ d = 5 ∨ d = 6 ∨ d = 7 ∨ d = 8 ∨ d = 9 := by omega
  rcases this with rfl | rfl | rfl | rfl | rfl | rfl | rfl | rfl | rfl | rfl <;> decide +kernel
theorem digit_enc {d : Int} (h0 : 0 ≤ d) (h1 : d ≤ 9) : Go.Utf8.encode (wrap32 (wrap64 (48 + d))) = ⟨#[UInt8.ofNat (48 + d.toNat)]⟩ := by
  have : d = 0 ∨ d = 1 ∨ d = 2 ∨ d = 3 ∨ d = 4 ∨ d = 5 ∨ d = 6 ∨ d = 7 ∨ d = 8 ∨ d = 9 := by omega
  rcases this with rfl | rfl | rfl | rfl | rfl | rfl | rfl | rfl | rfl | rfl <;> decide +kernel
def dgs (n : Nat) : ByteArray := if h : n < 10 then ⟨#[UInt8.ofNat (48 + n)]⟩ else dgs (n / 10) ++ ⟨#[UInt8.ofNat (48 + n % 10)]⟩
termination_by n
decreasing_by omega
theorem dgs_lt {n : Nat} (h : n < 10) : dgs n = ⟨#[UInt8.ofNat (48 + n)]⟩ := by rw [dgs, dif_pos h]
theorem dgs_ge {n : Nat} (h : ¬ n < 10) : dgs n = dgs (n / 10) ++ ⟨#[UInt8.ofNat (48 + n % 10)]⟩ := by rw [dgs, dif_neg h]
theorem dgs_size : ∀ (d n : Nat), n < 10 ^ (d + 1) → (dgs n).size ≤ d + 1 := by
  intro d
  induction d with
  | zero =>
    intro n h
    rw [dgs_lt (by simpa using h)]
    exact Nat.le_refl _
  | succ d ih =>
    intro n h
    by_cases hn : n < 10
    · rw [dgs_lt hn]; show 1 ≤ _; omega
    · rw [dgs_ge hn, ByteArray.size_append]
      have := ih (n / 10) (by rw [Nat.pow_succ] at h; omega)
      show _ + 1 ≤ _
      omega
def dstr (n : Int) : ByteArray := if n < 0 then ⟨#[45]⟩ ++ dgs n.natAbs else dgs n.natAbs
theorem dstr_size {n : Int} (h0 : -9223372036854775808 ≤ n) (h1 : n < 9223372036854775808) : (dstr n).size ≤ 20 := by
  have := dgs_size 18 n.natAbs (by omega)
  unfold dstr
  split
  · rw [ByteArray.size_append]; show 1 + _ ≤ _; omega
  · omega
theorem append_assoc_ (a b c : ByteArray) : a ++ b ++ c = a ++ (b ++ c) := ByteArray.append_assoc
theorem empty_append_ (a : ByteArray) : (⟨#[]⟩ : ByteArray) ++ a = a := ByteArray.empty_append
theorem append_empty_ (a : ByteArray) : a ++ (⟨#[]⟩ : ByteArray) = a := ByteArray.append_empty
theorem tdiv_pos (m : Nat) : Int.tdiv (m : Int) 10 = ((m / 10 : Nat) : Int) := rfl
theorem tdiv_neg (m : Nat) : Int.tdiv (-(m : Int)) 10 = -((m / 10 : Nat) : Int) := by rw [Int.neg_tdiv]; rfl
theorem tmod_pos (m : Nat) : Int.tmod (m : Int) 10 = ((m % 10 : Nat) : Int) := rfl
theorem tmod_neg (m : Nat) : Int.tmod (-(m : Int)) 10 = -((m % 10 : Nat) : Int) := by rw [Int.neg_tmod]; rfl
theorem spec_loop (b : Bool) : ∀ (d m : Nat) (neg : Bool) (out : ByteArray), m < 10 ^ d → m ≤ 9223372036854775808 → (neg = false → m < 9223372036854775808) → out.size + d ≤ 100 →
    Ev (fun k => spec_Digits.l0 k (if neg then -(m : Int) else (m : Int)) b out) ((if b then (⟨#[45]⟩ : ByteArray) else ⟨#[]⟩) ++ ((if m = 0 then ⟨#[]⟩ else dgs m) ++ out)) := by
  intro d
  induction d with
  | zero =>
    intro m neg out h _ _ hs
    obtain rfl : m = 0 := by simpa using h
    refine Ev.shift ?_
    have e : (if neg then -((0 : Nat) : Int) else ((0 : Nat) : Int)) = 0 := by cases neg <;> rfl
    simp only [e, spec_Digits.l0, if_true, empty_append_]
    cases b with
    | true =>
      have : 1 + out.size ≤ 9223372036854775807 := by omega
      simp only [this, if_true]
      exact Ev.now _
    | false =>
      simp only [Bool.false_eq_true, if_false, empty_append_]
      exact Ev.now _
  | succ d ih =>
    intro m neg out h hm hn hs
    by_cases h0 : m = 0
    · subst h0
      refine Ev.shift ?_
      have e : (if neg then -((0 : Nat) : Int) else ((0 : Nat) : Int)) = 0 := by cases neg <;> rfl
      simp only [e, spec_Digits.l0, if_true, empty_append_]
      cases b with
      | true =>
        have : 1 + out.size ≤ 9223372036854775807 := by omega
        simp only [this, if_true]
        exact Ev.now _
      | false =>
        simp only [Bool.false_eq_true, if_false, empty_append_]
        exact Ev.now _
    · have hd := ih (m / 10) neg (⟨#[UInt8.ofNat (48 + m % 10)]⟩ ++ out) (by rw [Nat.pow_succ] at h; omega) (by omega) (by intro h; have := hn h; omega)
        (by rw [ByteArray.size_append]; show 1 + _ + _ ≤ _; omega)
      have hsz : (⟨#[UInt8.ofNat (48 + m % 10)]⟩ : ByteArray).size + out.size ≤ 9223372036854775807 := by show 1 + out.size ≤ _; omega
      have hdig : strOfNums [(wrap64 (48 + ((m % 10 : Nat) : Int))) % 256] = ⟨#[UInt8.ofNat (48 + m % 10)]⟩ := digit_str (by omega) (by omega)
      have hres : (if m / 10 = 0 then (⟨#[]⟩ : ByteArray) else dgs (m / 10)) ++ (⟨#[UInt8.ofNat (48 + m % 10)]⟩ ++ out) = (if m = 0 then ⟨#[]⟩ else dgs m) ++ out := by
        rw [if_neg h0]
        by_cases h9 : m < 10
        · rw [if_pos (by omega), dgs_lt h9, empty_append_, Nat.mod_eq_of_lt h9]
        · rw [if_neg (by omega), dgs_ge h9, append_assoc_]
      rw [hres] at hd
      refine Ev.shift ?_
      cases neg with
      | false =>
        have hm' := hn rfl
        have c1 : ¬ ((m : Int) = 0) := by omega
        have c2 : ¬ (((m % 10 : Nat) : Int) < 0) := by omega
        have c3 : wrap64 ((m / 10 : Nat) : Int) = ((m / 10 : Nat) : Int) := w64 (by omega) (by omega)
        simp only [Bool.false_eq_true, if_false] at hd
        simp only [Bool.false_eq_true, if_false, spec_Digits.l0, c1, tmod_pos, c2, Option.bind_some, hdig, hsz, if_true, tdiv_pos, c3]
        exact hd
      | true =>
        have c1 : ¬ (-(m : Int) = 0) := by omega
        have c3 : wrap64 (-((m / 10 : Nat) : Int)) = -((m / 10 : Nat) : Int) := w64 (by omega) (by omega)
        simp only [if_true] at hd
        by_cases hz : m % 10 = 0
        · have c2 : ¬ (-((m % 10 : Nat) : Int) < 0) := by omega
          have hdig' : strOfNums [(wrap64 (48 + -((m % 10 : Nat) : Int))) % 256] = ⟨#[UInt8.ofNat (48 + m % 10)]⟩ := by rw [hz]; decide +kernel
          simp only [if_true, spec_Digits.l0, c1, if_false, tmod_neg, c2, Option.bind_some, hdig', hsz, tdiv_neg, c3]
          exact hd
        · have c2 : -((m % 10 : Nat) : Int) < 0 := by omega
          have c4 : wrap64 (-(-((m % 10 : Nat) : Int))) = ((m % 10 : Nat) : Int) := by rw [Int.neg_neg]; exact w64 (by omega) (by omega)
          simp only [if_true, spec_Digits.l0, c1, if_false, tmod_neg, c2, c4, Option.bind_some, hdig, hsz, tdiv_neg, c3]
          exact hd
theorem spec_Digits_ev (n : Int) (h0 : -9223372036854775808 ≤ n) (h1 : n < 9223372036854775808) : Ev (fun k => spec_Digits.f k n) (dstr n) := by
  by_cases hz : n = 0
  · subst hz
    simp only [spec_Digits.f, if_true]
    refine Ev.val ?_
    unfold dstr
    rw [if_neg (by omega)]
    exact (dgs_lt (n := 0) (by decide)).symm
  · have h := spec_loop (decide (n < 0)) 19 n.natAbs (decide (n < 0)) ⟨#[]⟩ (by omega) (by omega) (by intro h; have : ¬ n < 0 := of_decide_eq_false h; omega) (by show 0 + 19 ≤ 100; omega)
    have e : (if decide (n < 0) = true then -(n.natAbs : Int) else (n.natAbs : Int)) = n := by
      by_cases hn : n < 0
      · rw [if_pos (decide_eq_true hn)]; omega
      · rw [if_neg (by simpa using hn)]; omega
    rw [e] at h
    simp only [spec_Digits.f, hz, if_false]
    refine h.to ?_
    unfold dstr
    rw [append_empty_, if_neg (show ¬ n.natAbs = 0 by omega)]
    by_cases hn : n < 0
    · rw [if_pos (decide_eq_true hn), if_pos hn]
    · rw [if_neg (by simpa using hn), if_neg hn, empty_append_]
theorem impl_Digits_nat : ∀ (d m : Nat), m < 10 ^ (d + 1) → m < 9223372036854775808 → d ≤ 30 → Ev (fun k => impl_Digits.f k (m : Int)) (dgs m) := by
  intro d
  induction d with
  | zero =>
    intro m h hm _
    have h9 : m < 10 := by simpa using h
    refine Ev.shift ?_
    have c1 : ¬ ((m : Int) < 0) := by omega
    have c2 : (m : Int) < 10 := by omega
    simp only [impl_Digits.f, c1, if_false]
    refine Ev.shift ?_
    simp only [impl_Digits.j0, Bool.false_eq_true, c1, if_false, c2, if_true, digit_enc (d := (m : Int)) (by omega) (by omega)]
    refine Ev.val ?_
    rw [dgs_lt h9, Int.toNat_natCast]
  | succ d ih =>
    intro m h hm hd
    by_cases h9 : m < 10
    · exact ih m (by have : 10 ^ 1 ≤ 10 ^ (d + 1) := Nat.pow_le_pow_right (by decide) (by omega); omega) hm (by omega)
    · have h1 := ih (m / 10) (by rw [Nat.pow_succ] at h; omega) (by omega) (by omega)
      have hs := dgs_size 18 (m / 10) (by omega)
      refine Ev.shift ?_
      have c1 : ¬ ((m : Int) < 0) := by omega
      have c2 : ¬ ((m : Int) < 10) := by omega
      simp only [impl_Digits.f, c1, if_false]
      refine Ev.shift ?_
      have e1 : wrap64 ((m / 10 : Nat) : Int) = ((m / 10 : Nat) : Int) := w64 (by omega) (by omega)
      have e2 : Go.Utf8.encode (wrap32 (wrap64 (48 + ((m % 10 : Nat) : Int)))) = ⟨#[UInt8.ofNat (48 + m % 10)]⟩ := digit_enc (by omega) (by omega)
      have c3 : (dgs (m / 10)).size + (⟨#[UInt8.ofNat (48 + m % 10)]⟩ : ByteArray).size ≤ 9223372036854775807 := by show _ + 1 ≤ _; omega
      simp only [impl_Digits.j0, Bool.false_eq_true, c1, if_false, c2, tdiv_pos, tmod_pos, e1, e2]
      refine Ev.bind h1 ?_
      simp only [c3, if_true]
      exact Ev.val (dgs_ge h9).symm
theorem impl_Digits_ev (n : Int) (h0 : -9223372036854775808 ≤ n) (h1 : n < 9223372036854775808) : Ev (fun k => impl_Digits.f k n) (dstr n) := by
  by_cases hn : n < 0
  · obtain ⟨m, rfl⟩ : ∃ m : Nat, n = -(m : Int) := ⟨n.natAbs, by omega⟩
    have ed : dstr (-(m : Int)) = ⟨#[45]⟩ ++ dgs m := by unfold dstr; rw [if_pos hn, Int.natAbs_neg, Int.natAbs_natCast]
    rw [ed]
    refine Ev.shift ?_
    simp only [impl_Digits.f, hn, if_true]
    refine Ev.shift ?_
    by_cases h9 : -(m : Int) > -10
    · have hd := impl_Digits_nat 18 m (by omega) (by omega) (by decide)
      have hs := dgs_size 18 m (by omega)
      have e1 : wrap64 (-(-(m : Int))) = (m : Int) := by rw [Int.neg_neg]; exact w64 (by omega) (by omega)
      have c : 1 + (dgs m).size ≤ 9223372036854775807 := by omega
      simp only [impl_Digits.j0, h9, decide_true, if_true, e1]
      refine Ev.bind hd ?_
      simp only [c, if_true]
      exact Ev.now _
    · have hq : Ev (fun k => impl_Digits.f k (-((m / 10 : Nat) : Int))) (dstr (-((m / 10 : Nat) : Int))) := impl_Digits_ev (-((m / 10 : Nat) : Int)) (by omega) (by omega)
      have hr := impl_Digits_nat 18 (m % 10) (by omega) (by omega) (by decide)
      have e0 : dstr (-((m / 10 : Nat) : Int)) = ⟨#[45]⟩ ++ dgs (m / 10) := by unfold dstr; rw [if_pos (by omega), Int.natAbs_neg, Int.natAbs_natCast]
      have hs := dgs_size 18 (m / 10) (by omega)
      have hs' := dgs_size 0 (m % 10) (by simp; omega)
      have e1 : wrap64 (-((m / 10 : Nat) : Int)) = -((m / 10 : Nat) : Int) := w64 (by omega) (by omega)
      have e2 : wrap64 (-(-((m % 10 : Nat) : Int))) = ((m % 10 : Nat) : Int) := by rw [Int.neg_neg]; exact w64 (by omega) (by omega)
      have c : (dstr (-((m / 10 : Nat) : Int))).size + (dgs (m % 10)).size ≤ 9223372036854775807 := by
        rw [e0, ByteArray.size_append]; show 1 + _ + _ ≤ _; omega
      simp only [impl_Digits.j0, h9, decide_false, Bool.false_eq_true, hn, if_false, if_true, tdiv_neg, tmod_neg, e1, e2]
      refine Ev.bind hq (Ev.bind hr ?_)
      simp only [c, if_true]
      refine Ev.val ?_
      rw [e0, append_assoc_, dgs_ge (n := m) (by omega), dgs_lt (show m % 10 < 10 by omega)]
  · obtain ⟨m, rfl⟩ : ∃ m : Nat, n = (m : Int) := ⟨n.toNat, by omega⟩
    have ed : dstr (m : Int) = dgs m := by unfold dstr; rw [if_neg hn, Int.natAbs_natCast]
    rw [ed]
    exact impl_Digits_nat 18 m (by omega) (by omega) (by decide)
termination_by n.natAbs
decreasing_by omega
def keyB (b : Int) : Bool := decide (0 ≤ b ∧ b ≤ 3)
def valB (c : Int) : Bool := decide (1 ≤ c ∧ c ≤ 6)
def clsB (b : Int) : Bool := decide (0 ≤ b ∧ b ≤ 2)
def opOk (a b c : Int) : Bool :=
  if a = 1 then keyB b && valB c else if a = 2 then keyB b && valB c else if a = 3 then keyB b && (c == 0) else if a = 4 then keyB b && (c == 0)
  else if a = 5 then (b == 0) && valB c else if a = 6 then clsB b && (c == 0) else if a = 7 then (b == 0) && (c == 0) else if a = 8 then (b == 0) && (c == 0) else if a = 9 then (b == 0) && (c == 0)
  else if a = 10 then (b == 0) && valB c else false
theorem in_dec (n lo hi : Int) : (if n ≥ lo then some (decide (n ≤ hi)) else some false) = some (decide (lo ≤ n ∧ n ≤ hi)) := by
  by_cases h : n ≥ lo
  · have h' : lo ≤ n := h
    simp [h, h']
  · have h' : ¬ lo ≤ n := h
    simp [h, h']
theorem specIn_eq (n lo hi : Int) : spec_l1In.f n lo hi = some (decide (lo ≤ n ∧ n ≤ hi)) := in_dec n lo hi
theorem implFrom_eq (n lo hi : Int) : impl_from.f n lo hi = some (decide (lo ≤ n ∧ n ≤ hi)) := in_dec n lo hi
theorem spec_OpOk_at (a b c : Int) (h : 1 ≤ a ∧ a ≤ 10) (k : Nat) : spec_OpOk.f (k + 1 + 1) a b c = some (opOk a b c) := by
  have h' : a = 1 ∨ a = 2 ∨ a = 3 ∨ a = 4 ∨ a = 5 ∨ a = 6 ∨ a = 7 ∨ a = 8 ∨ a = 9 ∨ a = 10 := by omega
  simp only [spec_OpOk.f, spec_OpOk.j0, spec_OpOk.j1, spec_l4Key.f, spec_l4Val.f, spec_KeyOk.f, spec_ValOk.f, specIn_eq, Option.bind_some, opOk, keyB, valB, clsB]
  generalize decide (0 ≤ b ∧ b ≤ 3) = kb
  generalize decide (1 ≤ c ∧ c ≤ 6) = vc
  generalize decide (0 ≤ b ∧ b ≤ 2) = cb
  generalize (b == 0) = b0
  generalize (c == 0) = c0
  rcases h' with rfl | rfl | rfl | rfl | rfl | rfl | rfl | rfl | rfl | rfl <;> cases kb <;> cases vc <;> cases cb <;> cases b0 <;> cases c0 <;> rfl
theorem spec_OpOk_ev (a b c : Int) : Ev (fun k => spec_OpOk.f k a b c) (opOk a b c) := by
  by_cases h : 1 ≤ a ∧ a ≤ 10
  · refine Ev.shift (Ev.shift ?_)
    simp only [spec_OpOk_at a b c h]
    exact Ev.now _
  · have : opOk a b c = false := by
      unfold opOk
      rw [if_neg (by omega), if_neg (by omega), if_neg (by omega), if_neg (by omega), if_neg (by omega), if_neg (by omega), if_neg (by omega), if_neg (by omega), if_neg (by omega), if_neg (by omega)]
    rw [this]
    simp only [spec_OpOk.f, specIn_eq, Option.bind_some, h, decide_false, Bool.false_eq_true, if_false]
    exact Ev.now _
theorem impl_OpOk_at (a b c : Int) (h : 1 ≤ a ∧ a ≤ 10) (k : Nat) : impl_OpOk.f (k + 1 + 1 + 1) a b c = some (opOk a b c) := by
  have h' : a = 1 ∨ a = 2 ∨ a = 3 ∨ a = 4 ∨ a = 5 ∨ a = 6 ∨ a = 7 ∨ a = 8 ∨ a = 9 ∨ a = 10 := by omega
  have e1 : (if b = 0 then some (c == 0) else some false) = some ((b == 0) && (c == 0)) := by by_cases hb : b = 0 <;> simp [hb]
  have e2 : (if b = 0 then some (decide (1 ≤ c ∧ c ≤ 6)) else some false) = some ((b == 0) && decide (1 ≤ c ∧ c ≤ 6)) := by by_cases hb : b = 0 <;> simp [hb]
  simp only [impl_OpOk.f, impl_OpOk.j0, impl_OpOk.j1, impl_OpOk.j2, impl_KeyOk.f, impl_ValOk.f, impl_isClass.f, implFrom_eq, Option.bind_some, opOk, keyB, valB, clsB, e1, e2]
  generalize decide (0 ≤ b ∧ b ≤ 3) = kb
  generalize decide (1 ≤ c ∧ c ≤ 6) = vc
  generalize decide (0 ≤ b ∧ b ≤ 2) = cb
  generalize (b == 0) = b0
  generalize (c == 0) = c0
  rcases h' with rfl | rfl | rfl | rfl | rfl | rfl | rfl | rfl | rfl | rfl <;> cases kb <;> cases vc <;> cases cb <;> cases b0 <;> cases c0 <;> rfl
theorem impl_OpOk_ev (a b c : Int) : Ev (fun k => impl_OpOk.f k a b c) (opOk a b c) := by
  refine Ev.shift (Ev.shift (Ev.shift ?_))
  by_cases h : 1 ≤ a ∧ a ≤ 10
  · simp only [impl_OpOk_at a b c h]
    exact Ev.now _
  · have : opOk a b c = false := by
      unfold opOk
      rw [if_neg (by omega), if_neg (by omega), if_neg (by omega), if_neg (by omega), if_neg (by omega), if_neg (by omega), if_neg (by omega), if_neg (by omega), if_neg (by omega), if_neg (by omega)]
    rw [this]
    have h1 : ¬ a = 1 := by omega
    have h2 : ¬ a = 2 := by omega
    have h3 : ¬ a = 3 := by omega
    have h4 : ¬ a = 4 := by omega
    have h5 : ¬ a = 5 := by omega
    have h6 : ¬ a = 6 := by omega
    have h7 : ¬ a = 7 := by omega
    have h8 : ¬ a = 8 := by omega
    have h9 : ¬ a = 9 := by omega
    have h10 : ¬ a = 10 := by omega
    simp only [impl_OpOk.f, impl_OpOk.j0, impl_OpOk.j1, impl_OpOk.j2, h1, h2, h3, h4, h5, h6, h7, h8, h9, h10, beq_iff_eq, if_false]
    exact Ev.now _
def i64in (n : Int) : Prop := -9223372036854775808 ≤ n ∧ n < 9223372036854775808
def opNames : List ByteArray := [⟨#[]⟩, ⟨#[112, 117, 116]⟩, ⟨#[115, 101, 116]⟩, ⟨#[100, 101, 108]⟩, ⟨#[103, 101, 116]⟩, ⟨#[102, 105, 110, 100]⟩, ⟨#[99, 111, 117, 110, 116]⟩, ⟨#[115, 99, 97, 110]⟩, ⟨#[111, 112, 101, 110]⟩, ⟨#[109, 97, 107, 101]⟩, ⟨#[118, 105, 97]⟩]
def opName (a : Int) : ByteArray := rdOf ByteArray.empty opNames a
def hasK (a : Int) : Bool := decide (1 ≤ a ∧ a ≤ 4) || (a == 6)
def hasV (a : Int) : Bool := (a == 1) || (a == 2) || (a == 5) || (a == 10)
def sp1 : ByteArray := ⟨#[32]⟩
def withK (x : ByteArray) (a b : Int) : ByteArray := if hasK a = true then x ++ (sp1 ++ dstr b) else x
def withV (x : ByteArray) (a c : Int) : ByteArray := if hasV a = true then x ++ (sp1 ++ dstr c) else x
def optext (a b c : Int) : ByteArray := if opOk a b c = true then withV (withK (opName a) a b) a c else ⟨#[110, 111, 110, 101]⟩
theorem opOk_kind {a b c : Int} (h : opOk a b c = true) : 1 ≤ a ∧ a ≤ 10 := by
  apply Classical.byContradiction
  intro hn
  have : opOk a b c = false := by
    unfold opOk
    rw [if_neg (by omega), if_neg (by omega), if_neg (by omega), if_neg (by omega), if_neg (by omega), if_neg (by omega), if_neg (by omega), if_neg (by omega), if_neg (by omega), if_neg (by omega)]
  rw [this] at h
  cases h
theorem opName_size {a : Int} (h0 : 1 ≤ a) (h1 : a ≤ 10) : (opName a).size ≤ 5 := by
  have : a = 1 ∨ a = 2 ∨ a = 3 ∨ a = 4 ∨ a = 5 ∨ a = 6 ∨ a = 7 ∨ a = 8 ∨ a = 9 ∨ a = 10 := by omega
  rcases this with rfl | rfl | rfl | rfl | rfl | rfl | rfl | rfl | rfl | rfl <;> decide +kernel
theorem spec_j1_ev (x : ByteArray) (a b c : Int) (hx : x.size ≤ 1000) (hc : i64in c) : Ev (fun k => spec_OpText.j1 k x a b c) (withV x a c) := by
  have hs := dstr_size hc.1 hc.2
  refine Ev.shift ?_
  have hv : spec_l4Val.f a = some (hasV a) := by
    unfold spec_l4Val.f hasV
    by_cases h1 : a = 1
    · simp [h1]
    · by_cases h2 : a = 2
      · simp [h2]
      · by_cases h5 : a = 5
        · simp [h5]
        · simp [h1, h2, h5]
  simp only [spec_OpText.j1, hv, Option.bind_some, withV]
  by_cases h : hasV a = true
  · have c1 : x.size + 1 ≤ 9223372036854775807 := by omega
    have c2 : (x ++ (⟨#[32]⟩ : ByteArray)).size + (dstr c).size ≤ 9223372036854775807 := by rw [ByteArray.size_append]; show _ + 1 + _ ≤ _; omega
    simp only [h, c1, if_true]
    refine Ev.bind (spec_Digits_ev c hc.1 hc.2) ?_
    simp only [c2, if_true]
    exact Ev.val ByteArray.append_assoc
  · simp only [h, if_false]
    exact Ev.now _
theorem spec_j0_ev (x : ByteArray) (f : Bool) (a b c : Int) (hx : x.size ≤ 500) (hb : i64in b) (hc : i64in c) : Ev (fun k => spec_OpText.j0 k x f a b c) (withV (if f = true then x ++ (sp1 ++ dstr b) else x) a c) := by
  have hs := dstr_size hb.1 hb.2
  refine Ev.shift ?_
  simp only [spec_OpText.j0]
  cases f
  · simp only [Bool.false_eq_true, if_false]
    exact spec_j1_ev x a b c (by omega) hc
  · have c1 : x.size + 1 ≤ 9223372036854775807 := by omega
    have c2 : (x ++ (⟨#[32]⟩ : ByteArray)).size + (dstr b).size ≤ 9223372036854775807 := by rw [ByteArray.size_append]; show _ + 1 + _ ≤ _; omega
    simp only [c1, if_true]
    refine Ev.bind (spec_Digits_ev b hb.1 hb.2) ?_
    simp only [c2, if_true]
    have e : x ++ (⟨#[32]⟩ : ByteArray) ++ dstr b = x ++ (sp1 ++ dstr b) := ByteArray.append_assoc
    rw [e]
    exact spec_j1_ev _ a b c (by simp only [ByteArray.size_append]; show _ + (1 + _) ≤ _; omega) hc
theorem spec_OpText_ev (a b c : Int) (hb : i64in b) (hc : i64in c) : Ev (fun k => spec_OpText.f k a b c) (optext a b c) := by
  simp only [spec_OpText.f, optext]
  refine Ev.bind (spec_OpOk_ev a b c) ?_
  by_cases h : opOk a b c = true
  · have hk := opOk_kind h
    have hn := opName_size hk.1 hk.2
    have c1 : 0 ≤ a := by omega
    have c2 : a < ((opNames.length : Nat) : Int) := by show a < ((11 : Nat) : Int); omega
    have hl : spec_l14Names.f = some opNames := rfl
    have hkey : spec_l4Key.f a = some (decide (1 ≤ a ∧ a ≤ 4)) := by simp only [spec_l4Key.f, specIn_eq, Option.bind_some]
    simp only [h, if_true, hl, Option.bind_some, c1, c2, hkey]
    by_cases hk4 : 1 ≤ a ∧ a ≤ 4
    · have := spec_j0_ev (opName a) true a b c (by omega) hb hc
      simp only [hk4, decide_true, if_true, and_self]
      have e : withK (opName a) a b = opName a ++ (sp1 ++ dstr b) := by
        unfold withK hasK
        rw [if_pos (by simp [hk4])]
      rw [e]
      exact this
    · have := spec_j0_ev (opName a) (a == 6) a b c (by omega) hb hc
      simp only [hk4, decide_false, Bool.false_eq_true, if_false]
      have e : withK (opName a) a b = if (a == 6) = true then opName a ++ (sp1 ++ dstr b) else opName a := by
        unfold withK hasK
        simp [hk4]
      rw [e]
      exact this
  · simp only [h, if_false]
    exact Ev.now _
theorem opWord_eq {a : Int} (h0 : 1 ≤ a) (h1 : a ≤ 10) : impl_opWord.f a = some (opName a, hasK a, hasV a) := by
  have : a = 1 ∨ a = 2 ∨ a = 3 ∨ a = 4 ∨ a = 5 ∨ a = 6 ∨ a = 7 ∨ a = 8 ∨ a = 9 ∨ a = 10 := by omega
  rcases this with rfl | rfl | rfl | rfl | rfl | rfl | rfl | rfl | rfl | rfl <;> rfl
theorem impl_OpText_ev (a b c : Int) (hb : i64in b) (hc : i64in c) : Ev (fun k => impl_OpText.f k a b c) (optext a b c) := by
  simp only [impl_OpText.f, optext]
  refine Ev.bind (impl_OpOk_ev a b c) ?_
  by_cases h : opOk a b c = true
  · have hk := opOk_kind h
    have hn := opName_size hk.1 hk.2
    have hsb := dstr_size hb.1 hb.2
    have hsc := dstr_size hc.1 hc.2
    have b1 : 1 + (dstr b).size ≤ 9223372036854775807 := by omega
    have b2 : (opName a).size + ((⟨#[32]⟩ : ByteArray) ++ dstr b).size ≤ 9223372036854775807 := by rw [ByteArray.size_append]; show _ + (1 + _) ≤ _; omega
    have c1 : 1 + (dstr c).size ≤ 9223372036854775807 := by omega
    have c2 : (opName a ++ ((⟨#[32]⟩ : ByteArray) ++ dstr b)).size + ((⟨#[32]⟩ : ByteArray) ++ dstr c).size ≤ 9223372036854775807 := by simp only [ByteArray.size_append]; show _ + (1 + _) + (1 + _) ≤ _; omega
    have c3 : (opName a).size + ((⟨#[32]⟩ : ByteArray) ++ dstr c).size ≤ 9223372036854775807 := by rw [ByteArray.size_append]; show _ + (1 + _) ≤ _; omega
    simp only [h, if_true, opWord_eq hk.1 hk.2, Option.bind_some, withK, withV]
    cases hK : hasK a
    · cases hV : hasV a
      · simp only [Bool.false_eq_true, if_false]
        exact Ev.now _
      · simp only [Bool.false_eq_true, if_false, if_true]
        refine Ev.bind (impl_Digits_ev c hc.1 hc.2) ?_
        simp only [c1, c3, if_true]
        exact Ev.now _
    · cases hV : hasV a
      · simp only [Bool.false_eq_true, if_false, if_true]
        refine Ev.bind (impl_Digits_ev b hb.1 hb.2) ?_
        simp only [b1, b2, if_true]
        exact Ev.now _
      · simp only [if_true]
        refine Ev.bind (impl_Digits_ev b hb.1 hb.2) ?_
        simp only [b1, b2, if_true]
        refine Ev.bind (impl_Digits_ev c hc.1 hc.2) ?_
        simp only [c1, c2, if_true]
        exact Ev.now _
  · simp only [h, if_false]
    exact Ev.now _
section
variable {α β : Type} {P : α → Prop} {Q : β → Prop}
def Gets {α : Type} (g : Nat → Option α) (P : α → Prop) : Prop := ∃ r, Ev g r ∧ P r
theorem Gets.of {g : Nat → Option α} {r : α} (h : Ev g r) (p : P r) : Gets g P := ⟨r, h, p⟩
theorem Gets.shift {g : Nat → Option α} (h : Gets (fun k => g (k + 1)) P) : Gets g P := by
  obtain ⟨r, e, p⟩ := h
  exact ⟨r, Ev.shift e, p⟩
theorem Gets.bind {g : Nat → Option α} {f : Nat → α → Option β} (h : Gets g P) (k : ∀ a, P a → Gets (fun n => f n a) Q) : Gets (fun n => (g n).bind fun a => f n a) Q := by
  obtain ⟨a, e, p⟩ := h
  obtain ⟨r, e2, q⟩ := k a p
  exact ⟨r, Ev.bind e e2, q⟩
theorem Gets.bindE {g : Nat → Option α} {f : Nat → α → Option β} {a : α} (h : Ev g a) (k : Gets (fun n => f n a) Q) : Gets (fun n => (g n).bind fun a => f n a) Q := by
  obtain ⟨r, e2, q⟩ := k
  exact ⟨r, Ev.bind h e2, q⟩
theorem Gets.now {r : α} (p : P r) : Gets (fun _ => some r) P := ⟨r, Ev.now r, p⟩
theorem Gets.pos {p : Prop} [Decidable p] {g f : Nat → Option α} (h : p) (hg : Gets g P) : Gets (fun k => if p then g k else f k) P := by
  simp only [if_pos h]; exact hg
theorem Gets.neg {p : Prop} [Decidable p] {g f : Nat → Option α} (h : ¬ p) (hf : Gets f P) : Gets (fun k => if p then g k else f k) P := by
  simp only [if_neg h]; exact hf
theorem Gets.ite {p : Prop} [Decidable p] {g f : Nat → Option α} (hg : p → Gets g P) (hf : ¬ p → Gets f P) : Gets (fun k => if p then g k else f k) P := by
  by_cases h : p
  · exact Gets.pos h (hg h)
  · exact Gets.neg h (hf h)
end
theorem ba_of_toList {a b : ByteArray} (h : a.toList = b.toList) : a = b := by
  rw [ByteArray.toList_eq, ByteArray.toList_eq] at h
  cases a; cases b; congr 1; exact Array.toList_inj.mp h
def sp (c : UInt8) : List UInt8 → List UInt8 → List (List UInt8)
  | cur, [] => [cur]
  | cur, b :: l => if b = c then cur :: sp c [] l else sp c (cur ++ [b]) l
def pre (cur : List UInt8) : List (List UInt8) → List (List UInt8)
  | [] => [cur]
  | x :: xs => (cur ++ x) :: xs
theorem sp_ne (c : UInt8) : ∀ (l cur : List UInt8), sp c cur l ≠ []
  | [], _ => by simp [sp]
  | b :: l, cur => by
    unfold sp
    split
    · simp
    · exact sp_ne c l _
theorem pre_nil {l : List (List UInt8)} (h : l ≠ []) : pre [] l = l := by
  cases l with
  | nil => exact absurd rfl h
  | cons x xs => simp [pre]
theorem splitK_ne (c : List UInt8) (s : Nat) : ∀ (k : Nat) (l : List UInt8), Lib.splitK c s k l ≠ []
  | 0, _ => by simp [Lib.splitK]
  | k + 1, l => by unfold Lib.splitK; split <;> simp
theorem index_pos {c : UInt8} {l : List UInt8} (h : 0 < l.count c) : ∃ i : Nat, Lib.index l [c] = i := by
  have hg := Lib.index_ge l [c]
  by_cases e : Lib.index l [c] = -1
  · exfalso
    rw [Lib.index_one] at e
    have := Lib.indexByte_none e
    have hm : c ∈ l := List.count_pos_iff.mp h
    obtain ⟨n, hn, rfl⟩ := List.getElem_of_mem hm
    exact this n (List.getElem?_eq_getElem hn)
  · exact ⟨(Lib.index l [c]).toNat, by omega⟩
theorem sp_split (c : UInt8) : ∀ (l cur : List UInt8), sp c cur l = pre cur (Lib.splitK [c] 0 (l.count c) l)
  | [], cur => by simp [sp, Lib.splitK, pre]
  | b :: l, cur => by
    unfold sp
    by_cases h : b = c
    · subst h
      rw [if_pos rfl, List.count_cons_self, sp_split b l []]
      have hi : Lib.index (b :: l) [b] = 0 := by unfold Lib.index; rw [if_pos (by simp)]
      have hk : Lib.splitK [b] 0 (l.count b + 1) (b :: l) = [] :: Lib.splitK [b] 0 (l.count b) l := by
        rw [Lib.splitK, hi, if_neg (by decide)]
        simp
      rw [pre_nil (splitK_ne _ _ _ _), hk, pre, List.append_nil]
    · rw [if_neg h, List.count_cons_of_ne (by simpa using h), sp_split c l (cur ++ [b])]
      cases hk : l.count c with
      | zero => simp [Lib.splitK, pre]
      | succ k =>
        obtain ⟨i, hi⟩ := index_pos (c := c) (l := l) (by omega)
        have hb : Lib.index (b :: l) [c] = ((i + 1 : Nat) : Int) := by
          unfold Lib.index
          rw [if_neg (by simp [List.isPrefixOf]; exact fun e => h e.symm), hi, if_neg (by first | (simp; done) | (simp; omega))]
          first | done | simp
        unfold Lib.splitK
        rw [hi, hb, if_neg (by first | (simp; done) | (simp; omega)), if_neg (by first | (simp; done) | (simp; omega))]
        simp only [Int.toNat_natCast, Nat.add_zero, List.length_singleton, pre, List.take_succ_cons, List.drop_succ_cons, List.append_assoc, List.singleton_append]
theorem sp_join (c : UInt8) : ∀ (l cur : List UInt8), Lib.join (sp c cur l) [c] = cur ++ l
  | [], cur => by rw [sp, Lib.join_one, List.append_nil]
  | b :: l, cur => by
    unfold sp
    split
    · rename_i h
      subst h
      have ih := sp_join b l []
      cases hs : sp b [] l with
      | nil => exact absurd hs (sp_ne b l [])
      | cons x xs =>
        rw [hs] at ih
        rw [Lib.join_cons] at ih ⊢
        simp only [Lib.joinTail, List.map_cons, List.flatten_cons] at ih ⊢
        rw [List.append_assoc, ih]
        simp
    · rw [sp_join c l (cur ++ [b])]
      simp
def ba (l : List UInt8) : ByteArray := ⟨l.toArray⟩
theorem ba_data (s : ByteArray) : ba s.data.toList = s := by cases s; rfl
def parts (c : UInt8) (s : ByteArray) : List ByteArray := (sp c [] s.data.toList).map ba
theorem parts_ne (c : UInt8) (s : ByteArray) : 0 < (parts c s).length := by
  unfold parts
  rw [List.length_map]
  exact List.length_pos_iff.mpr (sp_ne c _ _)
theorem sp_len (c : UInt8) : ∀ (l cur x : List UInt8), x ∈ sp c cur l → x.length ≤ cur.length + l.length
  | [], cur, x, h => by simp only [sp, List.mem_singleton] at h; subst h; simp
  | b :: l, cur, x, h => by
    unfold sp at h
    split at h
    · simp only [List.mem_cons] at h
      rcases h with rfl | h
      · omega
      · have := sp_len c l [] x h
        simp only [List.length_nil, List.length_cons] at this ⊢
        omega
    · have := sp_len c l _ x h
      rw [List.length_append] at this
      simp at this ⊢
      omega
theorem parts_size {c : UInt8} {s x : ByteArray} (h : x ∈ parts c s) : x.size ≤ s.size := by
  obtain ⟨l, hl, rfl⟩ := List.mem_map.mp h
  have := sp_len c _ _ l hl
  simp only [List.length_nil, Nat.zero_add, Array.length_toList] at this
  exact this
theorem parts_rd (c : UInt8) (s : ByteArray) (i : Int) : (rdOf ByteArray.empty (parts c s) i).size ≤ s.size := by
  unfold rdOf
  rw [List.getD_eq_getElem?_getD]
  cases h : (parts c s)[i.toNat]? with
  | none => exact Nat.zero_le _
  | some x => exact parts_size (List.mem_of_getElem? h)
theorem split_parts (s : ByteArray) (c : UInt8) : Lib.splitB ⟨#[c]⟩ 0 (Lib.countB s ⟨#[c]⟩) s = parts c s := by
  have h := Lib.splitB_data (⟨#[c]⟩ : ByteArray) 0 (Lib.countB s ⟨#[c]⟩) s
  have e : Lib.countB s ⟨#[c]⟩ = s.data.toList.count c := Lib.count_one c _
  have h2 : (Lib.splitB ⟨#[c]⟩ 0 (Lib.countB s ⟨#[c]⟩) s).map (·.data.toList) = sp c [] s.data.toList := by
    rw [h, sp_split, pre_nil (splitK_ne _ _ _ _), e]
  unfold parts
  rw [← h2, List.map_map]
  have : (ba ∘ fun x : ByteArray => x.data.toList) = id := by funext x; exact ba_data x
  rw [this, List.map_id]
theorem impl_Split_eq (s : ByteArray) (c : UInt8) (a : Int) (ha : strOfNums [a] = ⟨#[c]⟩) (hs : s.size ≤ 1048576) : impl_Split.f s a = some (parts c s) := by
  simp only [impl_Split.f, ha, strings_Split.f]
  rw [if_pos ⟨by omega, rfl⟩, Option.bind_some, split_parts]
theorem bt_getElem {s : ByteArray} {i : Nat} (h : i < s.data.toList.length) : bt s (i : Int) = (s.data.toList[i].toNat : Int) := by
  have h2 : i < s.size := by rw [Array.length_toList] at h; exact h
  unfold bt
  rw [dif_pos (show (i : Int).toNat < s.size from h2)]
  rfl
theorem spec_Split_ev (s : ByteArray) (c : UInt8) (hs : s.size ≤ 1048576) : Ev (fun k => spec_Split.f k s (c.toNat : Int)) (parts c s) := by
  have hlen : s.data.toList.length = s.size := Array.length_toList
  have key : ∀ i, i ≤ s.size → ∀ (out : List ByteArray) (fr : Nat), fr ≤ i → out.length ≤ i →
      Ev (fun k => spec_Split.l0 k s (c.toNat : Int) out (fr : Int) (i : Int)) (out ++ (sp c ((s.data.toList.take i).drop fr) (s.data.toList.drop i)).map ba) := by
    refine back ?_ (fun i hi ih => ?_)
    · intro out fr hf ho
      have d1 : (0 : Int) ≤ (fr : Int) := by omega
      have d2 : (fr : Int) ≤ (s.size : Int) := by omega
      have d3 : out.length < 8796093022208 := by omega
      have d4 : ¬ ((s.size : Int) + 1 ≤ (s.size : Int)) := by omega
      refine Ev.shift ?_
      simp only [spec_Split.l0, Int.le_refl, if_true, d1, d2, d3]
      rw [w64 (n := (s.size : Int) + 1) (by omega) (by omega)]
      refine Ev.shift ?_
      simp only [spec_Split.l0, d4, if_false]
      refine Ev.val ?_
      have e1 : s.data.toList.take s.size = s.data.toList := List.take_of_length_le (by omega)
      have e2 : s.data.toList.drop s.size = [] := List.drop_eq_nil_of_le (by omega)
      rw [e1, e2]
      simp only [sp, List.map_cons, List.map_nil]
      congr 2
      have := Lib.extract_to_end s fr
      rw [← this, ba_data]
      rfl
    · intro out fr hf ho
      have hi' : i < s.data.toList.length := by omega
      have d0 : (i : Int) ≤ (s.size : Int) := by omega
      have d1 : ¬ ((i : Int) = (s.size : Int)) := by omega
      have d2 : (0 : Int) ≤ (i : Int) := by omega
      have d3 : (i : Int) < (s.size : Int) := by omega
      have d4 : (0 : Int) ≤ (fr : Int) := by omega
      have d5 : (fr : Int) ≤ (i : Int) := by omega
      have d6 : out.length < 8796093022208 := by omega
      have hb := bt_getElem hi'
      have ht : s.data.toList.drop i = s.data.toList[i] :: s.data.toList.drop (i + 1) := List.drop_eq_getElem_cons hi'
      have hk : s.data.toList.take (i + 1) = s.data.toList.take i ++ [s.data.toList[i]] := List.take_succ_eq_append_getElem hi'
      refine Ev.shift ?_
      simp only [spec_Split.l0, d0, d1, d2, d3, if_true, if_false]
      rw [succ64 hi (by omega), ht]
      by_cases hc : s.data.toList[i] = c
      · have hbc : bt s (i : Int) = (c.toNat : Int) := by rw [hb, hc]
        simp only [hbc, d4, d5, d6, if_true]
        have := ih (out ++ [s.extract (fr : Int).toNat (i : Int).toNat]) (i + 1) (Nat.le_refl _) (by simp; omega)
        refine this.to ?_
        have e0 : (s.data.toList.take (i + 1)).drop (i + 1) = [] := List.drop_eq_nil_of_le (by rw [List.length_take]; omega)
        rw [e0]
        conv => rhs; rw [sp, if_pos hc]
        have e1 : s.extract (fr : Int).toNat (i : Int).toNat = ba ((s.data.toList.take i).drop fr) := by
          rw [← ba_data (s.extract _ _), Lib.extract_data]
          congr 1
          rw [Int.toNat_natCast, Int.toNat_natCast, List.drop_take]
        rw [e1, List.map_cons, List.append_assoc, List.singleton_append]
      · have hbc : ¬ (bt s (i : Int) = (c.toNat : Int)) := by
          rw [hb]
          intro e
          exact hc (UInt8.toNat_inj.mp (by omega))
        simp only [hbc, if_false]
        have := ih out fr (by omega) (by omega)
        refine this.to ?_
        conv => rhs; rw [sp, if_neg hc]
        rw [hk, List.drop_append_of_le_length (by rw [List.length_take]; omega)]
  have := key 0 (Nat.zero_le _) [] 0 (Nat.le_refl _) (Nat.le_refl _)
  simp only [spec_Split.f]
  refine this.to ?_
  simp [parts]
theorem parts_join (c : UInt8) (s : ByteArray) : Lib.join ((parts c s).map (·.data.toList)) [c] = s.data.toList := by
  unfold parts
  rw [List.map_map]
  have : ((fun x : ByteArray => x.data.toList) ∘ ba) = id := by funext x; simp [ba]
  rw [this, List.map_id, sp_join, List.nil_append]
theorem w64_in (n : Int) : i64in (wrap64 n) := by unfold i64in wrap64; omega
theorem z_in : i64in 0 := ⟨by decide, by decide⟩
theorem implNum_loop (x : ByteArray) (hx : x.size ≤ 9223372036854775807) : ∀ i, i ≤ x.size → ∀ n, i64in n → Gets (fun k => impl_Number.l0 k x n (x.size : Int) (i : Int)) (fun r => i64in r.1) := by
  refine back ?_ (fun i hi ih => ?_)
  · intro n hn
    refine Gets.shift ?_
    simp only [impl_Number.l0, Int.lt_irrefl, if_false]
    exact Gets.bindE (impl_Digits_ev n hn.1 hn.2) (Gets.ite (fun _ => Gets.now hn) (fun _ => Gets.now z_in))
  · intro n hn
    have h0 : (0 : Int) ≤ (i : Int) := by omega
    have h1 : (i : Int) < (x.size : Int) := by omega
    refine Gets.shift ?_
    simp only [impl_Number.l0, h0, h1, if_true]
    refine Gets.ite (fun _ => Gets.now z_in) (fun _ => Gets.ite (fun _ => Gets.now z_in) (fun _ => ?_))
    rw [succ64 hi hx]
    exact ih _ (w64_in _)
theorem implNum_j0 (x : ByteArray) (hx : x.size ≤ 9223372036854775807) (b : Bool) : Gets (fun k => impl_Number.j0 k x b) (fun r => i64in r.1) := by
  refine Gets.shift ?_
  simp only [impl_Number.j0]
  exact Gets.ite (fun _ => Gets.now z_in) (fun _ => implNum_loop x hx 0 (Nat.zero_le _) 0 z_in)
theorem implNum_gets (x : ByteArray) (hx : x.size ≤ 9223372036854775807) : Gets (fun k => impl_Number.f k x) (fun r => i64in r.1) := by
  simp only [impl_Number.f]
  exact Gets.ite (fun _ => implNum_j0 x hx _) (fun _ => implNum_j0 x hx _)
theorem specNum_loop (x : ByteArray) (hx : x.size ≤ 9223372036854775807) : ∀ i, i ≤ x.size → ∀ n, i64in n → Gets (fun k => spec_Number.l0 k x n (i : Int)) (fun r => i64in r.1) := by
  refine back ?_ (fun i hi ih => ?_)
  · intro n hn
    refine Gets.shift ?_
    simp only [spec_Number.l0, Int.lt_irrefl, if_false]
    exact Gets.bindE (spec_Digits_ev n hn.1 hn.2) (Gets.ite (fun _ => Gets.now hn) (fun _ => Gets.now z_in))
  · intro n hn
    have h0 : (0 : Int) ≤ (i : Int) := by omega
    have h1 : (i : Int) < (x.size : Int) := by omega
    refine Gets.shift ?_
    simp only [spec_Number.l0, h0, h1, if_true]
    refine Gets.ite (fun _ => Gets.now z_in) (fun _ => Gets.ite (fun _ => Gets.now z_in) (fun _ => ?_))
    rw [succ64 hi hx]
    exact ih _ (w64_in _)
theorem specNum_j0 (x : ByteArray) (hx : x.size ≤ 9223372036854775807) (b : Bool) : Gets (fun k => spec_Number.j0 k x b) (fun r => i64in r.1) := by
  refine Gets.shift ?_
  simp only [spec_Number.j0]
  exact Gets.ite (fun _ => Gets.now z_in) (fun _ => specNum_loop x hx 0 (Nat.zero_le _) 0 z_in)
theorem specNum_gets (x : ByteArray) (hx : x.size ≤ 9223372036854775807) : Gets (fun k => spec_Number.f k x) (fun r => i64in r.1) := by
  simp only [spec_Number.f]
  exact Gets.ite (fun _ => specNum_j0 x hx _) (fun _ => specNum_j0 x hx _)
abbrev oR := Int × Int × Int × Bool
def sound (s : ByteArray) (r : oR) : Prop := (r.2.2.2 = true → opOk r.1 r.2.1 r.2.2.1 = true ∧ optext r.1 r.2.1 r.2.2.1 = s ∧ i64in r.2.1 ∧ i64in r.2.2.1) ∧ (r.2.2.2 = false → r = (0, 0, 0, false))
theorem sound_no (s : ByteArray) : sound s (0, 0, 0, false) := ⟨fun h => (by cases h), fun _ => rfl⟩
theorem sound_yes {s : ByteArray} {a b c : Int} (h : opOk a b c = true) (e : (optext a b c).toList = s.toList) (hb : i64in b) (hc : i64in c) : sound s (a, b, c, true) := ⟨fun _ => ⟨h, ba_of_toList e, hb, hc⟩, fun h => (by cases h)⟩
theorem implOp_j4 (s : ByteArray) (a b c : Int) (hb : i64in b) (hc : i64in c) : Gets (fun k => impl_OpOf.j4 k s a b c) (sound s) := by
  refine Gets.shift ?_
  simp only [impl_OpOf.j4]
  refine Gets.bindE (impl_OpOk_ev a b c) ?_
  exact Gets.ite (fun h => Gets.bindE (impl_OpText_ev a b c hb hc) (Gets.ite (fun e => Gets.now (sound_yes h e hb hc)) (fun _ => Gets.now (sound_no s)))) (fun _ => Gets.now (sound_no s))
theorem implOp_j3 (s : ByteArray) (W : List ByteArray) (hW : ∀ i, (rdOf ByteArray.empty W i).size ≤ 9223372036854775807) (n : Int) (f : Bool) (a b c : Int) (hn : 0 ≤ n) (hf : f = true → n < (W.length : Int)) (hb : i64in b) (hc : i64in c) : Gets (fun k => impl_OpOf.j3 k s W n f a b c) (sound s) := by
  refine Gets.shift ?_
  simp only [impl_OpOf.j3]
  exact Gets.ite (fun h => Gets.pos hn (Gets.pos (hf h) (Gets.bind (implNum_gets _ (hW n)) (fun r hr => implOp_j4 s a b r.1 hb hr)))) (fun _ => implOp_j4 s a b c hb hc)
theorem implOp_j2 (s : ByteArray) (W : List ByteArray) (hW : ∀ i, (rdOf ByteArray.empty W i).size ≤ 9223372036854775807) (v : Bool) (n a b c : Int) (hn : 0 ≤ n) (hb : i64in b) (hc : i64in c) : Gets (fun k => impl_OpOf.j2 k s W v n a b c) (sound s) := by
  refine Gets.shift ?_
  simp only [impl_OpOf.j2]
  exact Gets.ite (fun h => implOp_j3 s W hW n _ a b c hn (fun h => of_decide_eq_true h) hb hc) (fun _ => implOp_j3 s W hW n _ a b c hn (fun h => by cases h) hb hc)
theorem implOp_j1 (s : ByteArray) (W : List ByteArray) (hW : ∀ i, (rdOf ByteArray.empty W i).size ≤ 9223372036854775807) (v f : Bool) (a b c : Int) (hf : f = true → 1 < (W.length : Int)) (hb : i64in b) (hc : i64in c) : Gets (fun k => impl_OpOf.j1 k s W v 1 f a b c) (sound s) := by
  refine Gets.shift ?_
  simp only [impl_OpOf.j1]
  exact Gets.ite (fun h => Gets.pos (by decide) (Gets.pos (hf h) (Gets.bind (implNum_gets _ (hW 1)) (fun r hr => implOp_j2 s W hW v _ a r.1 c (by unfold wrap64; omega) hr hc)))) (fun _ => implOp_j2 s W hW v 1 a b c (by decide) hb hc)
theorem implOp_loop (s : ByteArray) (W : List ByteArray) (hW : ∀ i, (rdOf ByteArray.empty W i).size ≤ 9223372036854775807) (hl : 0 < W.length) : ∀ i : Nat, i ≤ 11 → 1 ≤ i → Gets (fun k => impl_OpOf.l0 k s W (i : Int)) (sound s) := by
  refine back ?_ (fun i hi ih => ?_)
  · intro _
    refine Gets.shift ?_
    simp only [impl_OpOf.l0]
    exact Gets.neg (by decide) (Gets.now (sound_no s))
  · intro h1
    have d0 : (i : Int) ≤ 10 := by omega
    have d1 : (0 : Int) < (W.length : Int) := by omega
    refine Gets.shift ?_
    simp only [impl_OpOf.l0, d0, d1, if_true, opWord_eq (a := (i : Int)) (by omega) d0, Option.bind_some]
    refine Gets.ite (fun _ => Gets.ite (fun _ => implOp_j1 s W hW _ _ _ 0 0 (fun h => of_decide_eq_true h) z_in z_in) (fun _ => implOp_j1 s W hW _ _ _ 0 0 (fun h => by cases h) z_in z_in)) (fun _ => ?_)
    rw [succ64 (i := i) (n := 11) hi (by decide)]
    exact ih (by omega)
theorem specOp_j2 (s : ByteArray) (W : List ByteArray) (i a b c : Int) (hb : i64in b) (hc : i64in c) (next : Gets (fun k => spec_OpOf.l0 k s W opNames (wrap64 (i + 1))) (sound s)) : Gets (fun k => spec_OpOf.j2 k s W opNames i a b c) (sound s) := by
  refine Gets.shift ?_
  simp only [spec_OpOf.j2]
  refine Gets.bindE (spec_OpOk_ev a b c) ?_
  exact Gets.ite (fun h => Gets.bindE (spec_OpText_ev a b c hb hc) (Gets.ite (fun e => Gets.now (sound_yes h e hb hc)) (fun _ => next))) (fun _ => next)
theorem specOp_j1 (s : ByteArray) (W : List ByteArray) (hW : ∀ i, (rdOf ByteArray.empty W i).size ≤ 9223372036854775807) (i a b c : Int) (hb : i64in b) (hc : i64in c) (next : Gets (fun k => spec_OpOf.l0 k s W opNames (wrap64 (i + 1))) (sound s)) : Gets (fun k => spec_OpOf.j1 k s W opNames i a b c) (sound s) := by
  refine Gets.shift ?_
  simp only [spec_OpOf.j1]
  exact Gets.ite (fun h => Gets.pos h (Gets.bind (specNum_gets _ (hW 2)) (fun r hr => specOp_j2 s W i a b r.1 hb hr next))) (fun _ => specOp_j2 s W i a b c hb hc next)
theorem specOp_loop (s : ByteArray) (W : List ByteArray) (hW : ∀ i, (rdOf ByteArray.empty W i).size ≤ 9223372036854775807) (hl : 0 < W.length) : ∀ i : Nat, i ≤ 11 → Gets (fun k => spec_OpOf.l0 k s W opNames (i : Int)) (sound s) := by
  refine back ?_ (fun i hi ih => ?_)
  · refine Gets.shift ?_
    simp only [spec_OpOf.l0]
    exact Gets.neg (by decide) (Gets.now (sound_no s))
  · have d0 : (i : Int) < (opNames.length : Int) := by show (i : Int) < ((11 : Nat) : Int); omega
    have d1 : (0 : Int) ≤ (i : Int) := by omega
    have d2 : (0 : Int) < (W.length : Int) := by omega
    have next : Gets (fun k => spec_OpOf.l0 k s W opNames (wrap64 ((i : Int) + 1))) (sound s) := by rw [succ64 (i := i) (n := 11) hi (by decide)]; exact ih
    refine Gets.shift ?_
    simp only [spec_OpOf.l0, d0, d1, d2, if_true]
    refine Gets.ite (fun _ => Gets.ite (fun h => Gets.pos h (Gets.bind (specNum_gets _ (hW 1)) (fun r hr => ?_))) (fun _ => specOp_j1 s W hW _ _ 0 0 z_in z_in next)) (fun _ => next)
    have hkey : spec_l4Key.f (i : Int) = some (decide (1 ≤ (i : Int) ∧ (i : Int) ≤ 4)) := by simp only [spec_l4Key.f, specIn_eq, Option.bind_some]
    simp only [hkey, Option.bind_some]
    exact Gets.ite (fun _ => specOp_j1 s W hW _ _ _ 0 hr z_in next) (fun _ => Gets.ite (fun _ => specOp_j1 s W hW _ _ _ 0 hr z_in next) (fun _ => specOp_j1 s W hW _ _ 0 _ z_in hr next))
theorem implOf_gets (s : ByteArray) (hs : s.size ≤ 1048576) : Gets (fun k => impl_OpOf.f k s) (sound s) := by
  simp only [impl_OpOf.f, impl_Split_eq s 32 32 rfl hs, Option.bind_some]
  exact implOp_loop s (parts 32 s) (fun i => by have := parts_rd 32 s i; omega) (parts_ne 32 s) 1 (by decide) (by decide)
theorem specOf_gets (s : ByteArray) (hs : s.size ≤ 1048576) : Gets (fun k => spec_OpOf.f k s) (sound s) := by
  simp only [spec_OpOf.f]
  refine Gets.bindE (spec_Split_ev s 32 hs) ?_
  have hl : spec_l14Names.f = some opNames := rfl
  simp only [hl, Option.bind_some]
  exact specOp_loop s (parts 32 s) (fun i => by have := parts_rd 32 s i; omega) (parts_ne 32 s) 1 (by decide)
def dg1 (n : Nat) : ByteArray := ⟨#[UInt8.ofNat (48 + n)]⟩
def txt1 (a b c : Nat) : ByteArray := (if hasV (a : Int) = true then (if hasK (a : Int) = true then opName a ++ (sp1 ++ dg1 b) else opName a) ++ (sp1 ++ dg1 c) else (if hasK (a : Int) = true then opName a ++ (sp1 ++ dg1 b) else opName a))
def one1 (a b c : Nat) : Bool := !(opOk a b c) || (decide (impl_OpOf.f 40 (txt1 a b c) = some ((a : Int), (b : Int), (c : Int), true)) && decide (spec_OpOf.f 40 (txt1 a b c) = some ((a : Int), (b : Int), (c : Int), true)))
def all1 : Bool := (List.range 11).all fun a => (List.range 4).all fun b => (List.range 7).all fun c => one1 a b c
set_option maxRecDepth 100000 in
theorem all1_true : all1 = true := by decide +kernel
theorem opOk_small {a b c : Int} (h : opOk a b c = true) : 1 ≤ a ∧ a ≤ 10 ∧ 0 ≤ b ∧ b ≤ 3 ∧ 0 ≤ c ∧ c ≤ 6 := by
  have hk := opOk_kind h
  have : a = 1 ∨ a = 2 ∨ a = 3 ∨ a = 4 ∨ a = 5 ∨ a = 6 ∨ a = 7 ∨ a = 8 ∨ a = 9 ∨ a = 10 := by omega
  rcases this with rfl | rfl | rfl | rfl | rfl | rfl | rfl | rfl | rfl | rfl <;> simp [opOk, keyB, valB, clsB] at h <;> omega
theorem optext_txt1 {a b c : Nat} (h : opOk a b c = true) : optext a b c = txt1 a b c := by
  have hs := opOk_small h
  have hd : ∀ n : Nat, n < 10 → dstr (n : Int) = dg1 n := by
    intro n hn
    unfold dstr
    rw [if_neg (by omega), Int.natAbs_natCast, dgs_lt hn]
    rfl
  unfold optext txt1 withV withK
  rw [if_pos h, hd b (by omega), hd c (by omega)]
theorem of_text {a b c : Int} (h : opOk a b c = true) : Ev (fun k => impl_OpOf.f k (optext a b c)) (a, b, c, true) ∧ Ev (fun k => spec_OpOf.f k (optext a b c)) (a, b, c, true) := by
  have hs := opOk_small h
  obtain ⟨m, rfl⟩ : ∃ m : Nat, a = (m : Int) := ⟨a.toNat, by omega⟩
  obtain ⟨n, rfl⟩ : ∃ n : Nat, b = (n : Int) := ⟨b.toNat, by omega⟩
  obtain ⟨p, rfl⟩ : ∃ p : Nat, c = (p : Int) := ⟨c.toNat, by omega⟩
  have h1 : one1 m n p = true := by
    have := all1_true
    unfold all1 at this
    rw [List.all_eq_true] at this
    have := this m (List.mem_range.mpr (by omega))
    rw [List.all_eq_true] at this
    have := this n (List.mem_range.mpr (by omega))
    rw [List.all_eq_true] at this
    exact this p (List.mem_range.mpr (by omega))
  unfold one1 at h1
  rw [h, Bool.not_true, Bool.false_or, Bool.and_eq_true] at h1
  rw [optext_txt1 h]
  exact ⟨Ev.of (fun k => impl_OpOf.mono _ k) (of_decide_eq_true h1.1), Ev.of (fun k => spec_OpOf.mono _ k) (of_decide_eq_true h1.2)⟩
theorem opOf_both (s : ByteArray) (hs : s.size ≤ 1048576) : ∃ r, Ev (fun k => impl_OpOf.f k s) r ∧ Ev (fun k => spec_OpOf.f k s) r ∧ sound s r := by
  obtain ⟨r, hr, pr⟩ := implOf_gets s hs
  obtain ⟨q, hq, pq⟩ := specOf_gets s hs
  suffices e : r = q by subst e; exact ⟨r, hr, hq, pr⟩
  obtain ⟨a, b, c, d⟩ := r
  obtain ⟨a2, b2, c2, d2⟩ := q
  cases d with
  | true =>
    obtain ⟨h1, h2, _⟩ := pr.1 rfl
    have := (of_text h1).2
    rw [h2] at this
    exact (Ev.det hq this).symm
  | false =>
    have e1 := pr.2 rfl
    cases d2 with
    | true =>
      obtain ⟨h1, h2, _⟩ := pq.1 rfl
      have := (of_text h1).1
      rw [h2] at this
      exact Ev.det hr this
    | false => rw [e1, pq.2 rfl]
end Go.Proofs.YtafcfhgdblefgaaDoor.P
namespace Go.Proofs.YtafcfhgdblefgaaDoor.P
open Go.Proofs.YtafcfhgdblefgaaDoorZ Go.RowKit Go.Proofs.YtafcfhgdblefgaaDoorW.PrintWords Go.Proofs.YtafcfhgdblefgaaDoorW.PrintLast Go.Proofs.YtafcfhgdblefgaaDoorW.PrintMore
attribute [local go_sem] max2_int min2_int max_two min_two max_three min_three max_four min_four   -- for this text's walks alone

end Go.Proofs.YtafcfhgdblefgaaDoor.P
namespace Go.Proofs.YtafcfhgdblefgaaDoor.P
open Go.RowKit Go.Proofs.YtafcfhgdblefgaaDoorW.PrintWords Go.Proofs.YtafcfhgdblefgaaDoorW.PrintLast Go.Proofs.YtafcfhgdblefgaaDoorZ
def jn (sep : ByteArray) (l : List ByteArray) : ByteArray := ⟨(Lib.join (l.map (·.data.toList)) sep.data.toList).toArray⟩
theorem ba_ext {a b : ByteArray} (h : a.data.toList = b.data.toList) : a = b := by
  cases a; cases b; congr 1; exact Array.toList_inj.mp h
theorem jn_data (sep : ByteArray) (l : List ByteArray) : (jn sep l).data.toList = Lib.join (l.map (·.data.toList)) sep.data.toList := rfl
noncomputable def opr (t : ByteArray) : oR := if h : t.size ≤ 1048576 then Classical.choose (opOf_both t h) else (0, 0, 0, false)
theorem opr_spec (t : ByteArray) (h : t.size ≤ 1048576) : Ev (fun k => impl_OpOf.f k t) (opr t) ∧ Ev (fun k => spec_OpOf.f k t) (opr t) ∧ sound t (opr t) := by
  unfold opr
  rw [dif_pos h]
  exact Classical.choose_spec (opOf_both t h)
abbrev pO := S23
noncomputable def opS (t : ByteArray) : pO := ⟨(opr t).1, (opr t).2.1, (opr t).2.2.1⟩
noncomputable def okP (t : ByteArray) : Bool := (opr t).2.2.2
noncomputable def progR (ps : List ByteArray) : List pO × Bool := if (ps.all okP) = true ∧ ps.length ≤ 8 then (ps.map opS, true) else ([], false)
theorem progR_no {ps : List ByteArray} (h : ¬ ((ps.all okP) = true ∧ ps.length ≤ 8)) : progR ps = ([], false) := if_neg h
theorem progR_yes {ps : List ByteArray} (h : ∀ t ∈ ps, okP t = true) (h8 : ps.length ≤ 8) : progR ps = (ps.map opS, true) := if_pos ⟨List.all_eq_true.mpr h, h8⟩
theorem rdOf_at {ps : List ByteArray} {i : Nat} (h : i < ps.length) : rdOf ByteArray.empty ps (i : Int) = ps[i] := by
  unfold rdOf
  rw [Int.toNat_natCast, List.getD_eq_getElem?_getD, List.getElem?_eq_getElem h]
  rfl
theorem map_take_one {ps : List ByteArray} {i : Nat} (h : i < ps.length) : (ps.take (i + 1)).map opS = (ps.take i).map opS ++ [opS ps[i]] := by
  rw [List.take_succ_eq_append_getElem h, List.map_append, List.map_cons, List.map_nil]
theorem all_take_one {ps : List ByteArray} {i : Nat} (h : i < ps.length) (ha : ∀ t ∈ ps.take i, okP t = true) (hb : okP ps[i] = true) : ∀ t ∈ ps.take (i + 1), okP t = true := by
  intro t ht
  rw [List.take_succ_eq_append_getElem h, List.mem_append, List.mem_singleton] at ht
  rcases ht with ht | rfl
  · exact ha t ht
  · exact hb
theorem implProg_loop (ps : List ByteArray) (hs : ∀ t ∈ ps, t.size ≤ 1048576) (hl : ps.length ≤ 9223372036854775807) : ∀ i, i ≤ ps.length → (∀ t ∈ ps.take i, okP t = true) → i ≤ 8 → Ev (fun k => impl_ProgOf.l0 k ((ps.take i).map opS) ps (ps.length : Int) (i : Int)) (progR ps) := by
  refine back ?_ (fun i hi ih => ?_)
  · intro hok h8
    rw [List.take_length] at hok ⊢
    refine Ev.shift ?_
    simp only [impl_ProgOf.l0, Int.lt_irrefl, if_false]
    exact Ev.val (progR_yes hok h8).symm
  · intro hok h8
    have d0 : (0 : Int) ≤ (i : Int) := by omega
    have d1 : (i : Int) < (ps.length : Int) := by omega
    obtain ⟨e1, _, _⟩ := opr_spec ps[i] (hs _ (List.getElem_mem hi))
    refine Ev.shift ?_
    simp only [impl_ProgOf.l0, d0, d1, if_true, rdOf_at hi]
    refine Ev.bind e1 ?_
    by_cases hk : okP ps[i] = true
    · refine Ev.pos hk ?_
      by_cases h9 : i = 8
      · refine Ev.pos (by rw [List.length_map, List.length_take]; omega) (Ev.val ?_)
        exact (progR_no (fun h => by have := h.2; omega)).symm
      · refine Ev.neg (by rw [List.length_map, List.length_take]; omega) (Ev.pos (by rw [List.length_map, List.length_take]; omega) ?_)
        rw [succ64 hi hl]
        have := ih (all_take_one hi hok hk) (by omega)
        rw [map_take_one hi] at this
        exact this
    · refine Ev.neg hk (Ev.val ?_)
      exact (progR_no (fun h => hk (List.all_eq_true.mp h.1 _ (List.getElem_mem hi)))).symm
theorem specProg_loop (ps : List ByteArray) (hs : ∀ t ∈ ps, t.size ≤ 1048576) (hl : ps.length ≤ 9223372036854775807) : ∀ i, i ≤ ps.length → (∀ t ∈ ps.take i, okP t = true) → (0 < i → ps.length ≤ 8) → Ev (fun k => spec_ProgOf.l0 k ((ps.take i).map opS) ps (i : Int)) (progR ps) := by
  refine back ?_ (fun i hi ih => ?_)
  · intro hok h8
    rw [List.take_length] at hok ⊢
    refine Ev.shift ?_
    simp only [spec_ProgOf.l0, Int.lt_irrefl, if_false]
    exact Ev.val (progR_yes hok (by by_cases h : 0 < ps.length; exact h8 h; omega)).symm
  · intro hok h8
    have d0 : (0 : Int) ≤ (i : Int) := by omega
    have d1 : (i : Int) < (ps.length : Int) := by omega
    obtain ⟨_, e1, _⟩ := opr_spec ps[i] (hs _ (List.getElem_mem hi))
    refine Ev.shift ?_
    simp only [spec_ProgOf.l0, d0, d1, if_true, rdOf_at hi]
    refine Ev.bind e1 ?_
    by_cases hk : okP ps[i] = true
    · refine Ev.pos hk ?_
      by_cases h9 : ps.length ≤ 8
      · refine Ev.neg (by omega) (Ev.pos (by rw [List.length_map, List.length_take]; omega) ?_)
        rw [succ64 hi hl]
        have := ih (all_take_one hi hok hk) (fun _ => h9)
        rw [map_take_one hi] at this
        exact this
      · refine Ev.pos (by omega) (Ev.val ?_)
        exact (progR_no (fun h => h9 h.2)).symm
    · refine Ev.neg hk (Ev.val ?_)
      exact (progR_no (fun h => hk (List.all_eq_true.mp h.1 _ (List.getElem_mem hi)))).symm
def semi2 : ByteArray := ⟨#[59]⟩
def opx (a : pO) : ByteArray := optext a.f0 a.f1 a.f2
def told (s : ByteArray) (r : List pO × Bool) : Prop := r.1.length ≤ 8 ∧ (r.2 = true → jn semi2 (r.1.map opx) = s ∧ ∀ o ∈ r.1, i64in o.f1 ∧ i64in o.f2)
theorem progOf_both (s : ByteArray) (hs : s.size ≤ 1048576) : ∃ r, Ev (fun k => impl_ProgOf.f k s) r ∧ Ev (fun k => spec_ProgOf.f k s) r ∧ told s r := by
  by_cases h0 : s.toList = []
  · refine ⟨([], true), ?_, ?_, by decide, fun _ => ⟨?_, fun o ho => by cases ho⟩⟩
    · simp only [impl_ProgOf.f, Option.bind_some, h0, if_true]; exact Ev.now _
    · simp only [spec_ProgOf.f, Option.bind_some, h0, if_true]; exact Ev.now _
    · have : s = ⟨#[]⟩ := ba_of_toList (by rw [h0, ByteArray.toList_eq])
      rw [this]; rfl
  · have hsz : ∀ t ∈ parts 59 s, t.size ≤ 1048576 := fun t ht => by have := parts_size ht; omega
    have hl : (parts 59 s).length ≤ 9223372036854775807 := by
      have h := Lib.splitB_all (⟨#[59]⟩ : ByteArray) (Nat.le_refl 1) 0 _ s rfl
      have h2 := Lib.countB_le (⟨#[59]⟩ : ByteArray) (Nat.le_refl 1) s.size s (Nat.le_refl _)
      rw [split_parts] at h
      omega
    refine ⟨progR (parts 59 s), ?_, ?_, ?_, ?_⟩
    · simp only [impl_ProgOf.f, Option.bind_some, h0, if_false, impl_Split_eq s 59 59 rfl hs]
      exact implProg_loop (parts 59 s) hsz hl 0 (Nat.zero_le _) (fun t ht => by cases ht) (by decide)
    · simp only [spec_ProgOf.f, Option.bind_some, h0, if_false]
      refine Ev.bind (spec_Split_ev s 59 hs) ?_
      exact specProg_loop (parts 59 s) hsz hl 0 (Nat.zero_le _) (fun t ht => by cases ht) (fun h => by omega)
    · unfold progR
      split
      · rename_i h
        simp only [List.length_map]
        exact h.2
      · exact Nat.zero_le _
    · unfold progR
      split
      · rename_i h
        intro _
        have hok := List.all_eq_true.mp h.1
        refine ⟨?_, fun o ho => ?_⟩
        · have e : (List.map opS (parts 59 s)).map opx = parts 59 s := by
            rw [List.map_map]
            have : ∀ t ∈ parts 59 s, (opx ∘ opS) t = t := by
              intro t ht
              exact (((opr_spec t (hsz t ht)).2.2).1 (hok t ht)).2.1
            rw [List.map_congr_left this, List.map_id']
          show jn semi2 ((List.map opS (parts 59 s)).map opx) = s
          rw [e]
          apply ba_ext
          rw [jn_data]
          exact parts_join 59 s
        · obtain ⟨t, ht, rfl⟩ := List.mem_map.mp ho
          exact (((opr_spec t (hsz t ht)).2.2).1 (hok t ht)).2.2
      · intro h; cases h
theorem eqOpS_same (l : List pO) (hl : l.length ≤ 9223372036854775807) : Ev (fun k => laws_eqOpS.f k l l) true := by
  simp only [laws_eqOpS.f, if_true]
  refine look_ev l true (g := fun k i => laws_eqOpS.l0 k l l i) ?_ ?_
  · refine Ev.shift ?_
    simp only [laws_eqOpS.l0, Int.lt_irrefl, if_false]
    exact Ev.now _
  · intro i x hx hi h
    refine Ev.shift ?_
    have d1 : (i : Int) < (l.length : Int) := by omega
    have d2 : (0 : Int) ≤ (i : Int) := by omega
    simp only [laws_eqOpS.l0, laws_eqOp.f, Option.bind_some, d1, d2, if_true, succ64 hi hl]
    exact h
abbrev kO := S23
def mkO (_ : kO) (m : Int) : kO := ⟨m, m + 1, m + 2⟩
theorem rdO_set (l : List kO) (i : Nat) (a : kO) (h : i < l.length) : rd_T23 (l.set i a) (i : Int) = a := getD_get (by rw [List.getElem?_set_self h])
theorem markOpS_ev (l : List kO) (m : Int) (h0 : 0 ≤ m) (hl : l.length ≤ 1048576) (hm : m ≤ 4294967296) : Ev (fun k => laws_markOpS.f k l m) (m + 3 * l.length, mkl (fun _ => 3) mkO l m) := by
  have h := mark_ev (fun _ => 3) mkO (fun _ => by decide) 9223372036854775800 (g := fun k l m i => laws_markOpS.l0 k l m i) l.length ?_ ?_ l m rfl h0 (by rw [ctl_const]; omega)
  · rw [ctl_const] at h
    simp only [laws_markOpS.f]
    exact h
  · intro s t hs
    refine Ev.shift ?_
    simp only [laws_markOpS.l0, Int.lt_irrefl, if_false]
    exact Ev.now _
  · intro s t i x r hs hx hi h2 h3 h
    refine Ev.shift ?_
    have d1 : (i : Int) < (s.length : Int) := by omega
    have d2 : (0 : Int) ≤ (i : Int) := by omega
    have e1 : wrap64 (t + 1) = t + 1 := w64 (by omega) (by omega)
    have e2 : wrap64 (t + 1 + 1) = t + 2 := by rw [w64 (by omega) (by omega)]; omega
    have e3 : wrap64 (t + 2 + 1) = t + 3 := by rw [w64 (by omega) (by omega)]; omega
    simp only [laws_markOpS.l0, d1, d2, if_true, Option.bind_some, Int.toNat_natCast, succ64 hi (by omega), e1, e2, e3]
    simp only [rdO_set (s.set i ⟨t, (rd_T23 s (i : Int)).f1, (rd_T23 s (i : Int)).f2⟩) i _ (by rw [List.length_set]; exact hi), rdO_set _ i _ hi, List.set_set]
    exact h
theorem heldOpS_ev (l : List kO) (m : Int) (h0 : 0 ≤ m) (hl : l.length ≤ 1048576) (hm : m ≤ 4294967296) : Ev (fun k => laws_heldOpS.f k (mkl (fun _ => 3) mkO l m) m) (m + 3 * l.length) := by
  have h := held_ev (fun _ => 3) mkO (fun _ => by decide) 9223372036854775800 (g := fun k l m i => laws_heldOpS.l0 k l m i) l.length ?_ ?_ l m rfl h0 (by rw [ctl_const]; omega)
  · rw [ctl_const] at h
    simp only [laws_heldOpS.f]
    exact h
  · intro s t hs
    refine Ev.shift ?_
    simp only [laws_heldOpS.l0, Int.lt_irrefl, if_false]
    exact Ev.now _
  · intro s t i x r hs hx hi h2 h3 h
    refine Ev.shift ?_
    have d1 : (i : Int) < (s.length : Int) := by omega
    have d2 : (0 : Int) ≤ (i : Int) := by omega
    have e1 : wrap64 (t + 1) = t + 1 := w64 (by omega) (by omega)
    have e2 : wrap64 (t + 1 + 1) = t + 2 := by rw [w64 (by omega) (by omega)]; omega
    have e3 : wrap64 (t + 2 + 1) = t + 3 := by rw [w64 (by omega) (by omega)]; omega
    have d3 : rd_T23 s (i : Int) = mkO x t := getD_get hx
    have d4 : (mkO x t).f0 = t := rfl
    have d5 : (mkO x t).f1 = t + 1 := rfl
    have d6 : (mkO x t).f2 = t + 2 := rfl
    simp only [laws_heldOpS.l0, d1, d2, d3, d4, d5, d6, if_true, succ64 hi (by omega), e1, e2, e3]
    exact h
theorem pureFnExactProgOf : PureFnExactProgOf := by
  intro x _
  refine Ev.rounds ?_
  simp only [laws_FnExactProgOf.f]
  by_cases hbig : (x.size : Int) > 1048576
  · exact Ev.pos hbig (Ev.now _)
  refine Ev.neg hbig ?_
  obtain ⟨r, hr, hq, h8, _⟩ := progOf_both x (by omega)
  have he := eqOpS_same r.1 (by omega)
  have hm := markOpS_ev r.1 1 (by decide) (by omega) (by decide)
  have hh := heldOpS_ev r.1 1 (by decide) (by omega) (by decide)
  refine Ev.bind hq (Ev.bind hr (Ev.bind he (Ev.pos rfl ?_)))
  refine Ev.shift ?_
  simp only [laws_FnExactProgOf.j0, bne_self_eq_false, Bool.false_eq_true, if_false]
  refine Ev.bind hm (Ev.bind hh (Ev.neg (by omega) (Ev.pos rfl (Ev.bind hr (Ev.bind he (Ev.pos rfl ?_))))))
  refine Ev.shift ?_
  simp only [laws_FnExactProgOf.j1, bne_self_eq_false, Bool.false_eq_true, if_false]
  exact Ev.bind hh (Ev.neg (by omega) (Ev.pos rfl (Ev.now _)))
end Go.Proofs.YtafcfhgdblefgaaDoor.P
namespace Go.Proofs.YtafcfhgdblefgaaDoor.fnExactProgOf
open Go.ChangeShapes Go.WideShapes Go.ChangeAt Go.RowKit Go.Proofs.YtafcfhgdblefgaaDoorW.PrintWords Go.Proofs.YtafcfhgdblefgaaDoorW.PrintLast Go.Proofs.YtafcfhgdblefgaaDoorZ Go.Proofs.YtafcfhgdblefgaaDoor.P
open Go.ChangeMaps (open_string shut_string)
theorem own : ownKnob Tryd.prog.godebug = none := by kernel_rfl
set_option maxRecDepth 100000 in
theorem contract (H : Type) (enc : TypeId × Value → H) (W : World) (base : Nat) (args : Array Value) (ds gs : List (DataW H)) (before : List MemPlace)
    (hval0 : ∀ (j : Nat) t v, Tryd.f4.params[j]? = some t → args[j]? = some v → Value.okWide Tryd.prog W .any base t v)
    (hW : DataW.Whole enc Tryd.prog Tryd.f4.params.toList Rows.fnExactProgOfSpec.vars false W args.toList ds gs before) :
    Calls Tryd.prog 4 args W fun e W' => ∃ v, e = .returned v ∧ Rows.fnExactProgOfSpec.post enc Tryd.prog Tryd.f4 false true false false W args v W' := by
  have hval : ∀ (j : Nat) t v, Tryd.f4.params[j]? = some t → args[j]? = some v → Value.okWide Tryd.prog W .any base t v := hval0
  have hW' := hW
  obtain ⟨p, q, hA0, hV, rfl, hfz, hnd⟩ := hW
  have hA : DataW.TrodAll enc Tryd.prog W 0 (fun _ => true) true Tryd.f4.params.toList args.toList ds p := hA0
  rw [Tryd.params4] at hA hval
  obtain ⟨v0, vs0, d0, ds0, p0, q0, hargs, rfl, rfl, h0, r0⟩ := trodAll_cons hA
  obtain ⟨rfl, rfl, rfl⟩ := trodAll_nil r0
  obtain rfl : args = #[v0] := by cases args; simp_all
  obtain ⟨rfl, rfl⟩ := trodVars_none hV
  obtain ⟨x0, rfl, rfl, rfl, y0⟩ := open_string Tryd.underlying9 (hval 0 9 v0 rfl rfl) h0
  have w0 : x0.size ≤ 9223372036854775807 := by have := y0; simp only [maxLen] at this; omega
  obtain ⟨k, hk⟩ := pureFnExactProgOf x0 w0
  clear hA0 hval0
  refine (laws_FnExactProgOf.calls k x0 true W  hk).mono fun e W' hh => ?_
  obtain ⟨he, bel0⟩ := hh
  have bel : Below W.heap.size W W' := bel0
  subst he
  exact ⟨_, rfl, _, _, _, [], _, [], hW', trodAll_mk1 (shut_bool Tryd.underlying4 _), (trodAll_cons_mk (shut_string Tryd.underlying9 y0) trodAll_mk0), rfl, bel.frame _, fun h => by cases h⟩
def holds (cs : Array Value) : Obj → Obj
  | .cells _ t frozen => .cells cs t frozen
  | o => o
noncomputable def laidWorld (os : Os) : World :=
  let w := World.holding Tryd.prog os ⟨#[], #[], []⟩
  let first : List Nat := Go.Pinned.utf8FirstZ
  let ranges : List Nat := [128, 191, 160, 191, 128, 159, 144, 191, 128, 143, 0, 0, 0, 0, 0, 0, 0, 0, 0, 0, 0, 0, 0, 0, 0, 0, 0, 0, 0, 0, 0, 0]
  { w with heap := (w.heap.modify 1 (holds (first.map fun (n : Nat) => Value.int .u8 (n : Int)).toArray)).modify 2 (holds (ranges.map fun (n : Nat) => Value.int .u8 (n : Int)).toArray) }
set_option maxRecDepth 100000 in
theorem laid_met (os : Os) : laidMet Tryd.prog Rows.fnExactProgOfRow.laid ((laidWorld os).forCall (fun _ _ => 0) ⟨#[], #[.string ByteArray.empty], []⟩).memory :=
  laidMet_of_run' 8 (by kernel_rfl) (by kernel_rfl)
theorem reads (os : Os) {H : Type} (enc : TypeId × Value → H) : ∃ places, DataW.whole enc Tryd.prog ((laidWorld os).forCall (fun _ _ => 0) ⟨#[], #[.string ByteArray.empty], []⟩).memory Tryd.f4.params.toList Rows.fnExactProgOfSpec.vars false (#[.string ByteArray.empty] : Array Value).toList 8 = some ([.lit (.string [])], [], places) :=
  ⟨[], by kernel_rfl⟩
set_option maxRecDepth 100000 in
theorem lifted (os : Os) (started : os.Started) (H : Type) (enc : TypeId × Value → H) (F : Stop.Interp) :
    ReturnsInHanded {} Tryd.checked os 4 .any ((OpenSpec.ofChange Rows.fnExactProgOfSpec).preRow enc Tryd.prog Tryd.f4 Rows.fnExactProgOfRow.domain false Rows.fnExactProgOfRow.laid) (((OpenSpec.ofChange Rows.fnExactProgOfSpec).at F).post enc Tryd.prog Tryd.f4 false true false false) := by
  obtain ⟨places, hx⟩ := reads os enc
  refine returnsInHanded_of_row (C := Tryd.checked) (s := OpenSpec.ofChange Rows.fnExactProgOfSpec) own started (by kernel_rfl) Tryd.func4
    (witness_row_at (enc := enc) (C := Tryd.checked) false (laidWorld os) #[.string ByteArray.empty] rfl (by kernel_rfl) (by kernel_rfl) (by kernel_rfl)
      (OpenSpec.preRow_of_cond 8 hx (by kernel_rfl) (fun k hk => by cases hk) (by kernel_rfl) (laid_met os))) ?_
  intro W base args ds gs before hval hW _ _ _ _ _ _
  exact contract H enc W base args ds gs before hval hW
theorem said : Rows.FnExactProgOfSaid :=
  OpenClaim.holds_of_cond 4 Tryd.f4 rfl rfl rfl rfl rfl rfl rfl ⟨rfl, rfl, rfl, rfl, rfl⟩ rfl rfl rfl rfl rfl (by kernel_rfl) Tryd.func4 (by kernel_rfl)
    (of_decide_eq_true (by kernel_rfl)) (by unfold Func.isWrapper; first | (rw [if_pos (by decide +kernel)]; kernel_rfl) | (rw [if_neg (by decide +kernel)]; exact ⟨rfl, rfl⟩))
    (fun os started H enc _ F => by rw [OpenClaim.pre_eq_preRow]; exact lifted os started H enc F)
theorem plain (f : FuncId) (fn : Func) (hf : Tryd.pinned.checked.prog.funcNamed "loop.example/g00468/laws.FnExactProgOf" = some f) (hfn : Tryd.pinned.checked.prog.funcs[f]? = some fn) :
    false = Tryd.pinned.checked.prog.looks [] ∧ ∀ (j : Nat) t, fn.params[j]? = some t → Tryd.pinned.checked.prog.wantsStandIn t = false := by
  obtain rfl : f = 4 := Option.some.inj ((show Tryd.prog.funcNamed "loop.example/g00468/laws.FnExactProgOf" = some 4 by kernel_rfl).symm.trans hf) |>.symm
  obtain rfl : fn = Tryd.f4 := (Option.some.inj (Tryd.func4.symm.trans hfn)).symm
  refine ⟨by kernel_rfl, fun j t ht => ?_⟩
  rw [Tryd.params4] at ht
  obtain rfl : t = 9 := by simpa using Array.mem_of_getElem? ht
  exact (show Tryd.prog.wantsStandIn 9 = false by kernel_rfl)
theorem card : Rows.FnExactProgOfCardSaid :=
  Claim7.holds_tied_plain_at .later [] _ _ _ _ said (fun _ h => by cases h) (by kernel_rfl) (fun _ h => by cases h) fnExactProgOf_row_tie rfl ⟨rfl, rfl⟩ (by kernel_rfl) rfl plain (by kernel_rfl)
#print axioms card
end Go.Proofs.YtafcfhgdblefgaaDoor.fnExactProgOf
namespace Go.Proofs.YtafcfhgdblefgaaDoor
theorem fnExactProgOf_holds : Rows.FnExactProgOfCardSaid := fnExactProgOf.card
end Go.Proofs.YtafcfhgdblefgaaDoor
