/- A part of the proof of the law FnExactTupleOf: texts of this seat, merged (words, printed functions of the program, plain lemmas). Conditions: none of its own. -/
import Derived.OpenShut
import Derived.DataElems
import Derived.DataReads
import Derived.Laws.BitsLemmas
import Derived.Test.YtgnmdhkkbkoghaaPkFnExactTupleOf3
namespace Go.Proofs.Ytgnmdhkkbkoghaa.P
open Go.RowKit Go.Proofs.YtgnmdhkkbkoghaaW.PrintWords Go.Proofs.YtgnmdhkkbkoghaaW.PrintLast Go.Proofs.YtgnmdhkkbkoghaaW.PrintMore
attribute [local go_sem] max2_int min2_int max_two min_two max_three min_three max_four min_four   -- for this text's walks alone
set_option linter.unusedVariables false
set_option linter.unusedSimpArgs false
mutual
def impl_takeValue.j0 : Nat → List Int → Bool → Int → Int → ByteArray → Option (Int × Int × ByteArray × List Int)
  | 0, _, _, _, _, _ => none
  | k + 1, x0, x16, x104000, x104001, x104002 => if x16 = true then (if 0 < (x0.length : Int) then (if 1 ≤ (x0.length : Int) then (some (x104000, wrap64 (rd x0 0), x104002, (x0.drop 1))) else (none)) else (none)) else (if x104000 = 2 then (impl_takeValue.j1 k x0 (decide ((x0.length : Int) ≥ 8)) x104000 x104001 x104002) else (impl_takeValue.j1 k x0 false x104000 x104001 x104002))
def impl_takeValue.j1 : Nat → List Int → Bool → Int → Int → ByteArray → Option (Int × Int × ByteArray × List Int)
  | 0, _, _, _, _, _ => none
  | k + 1, x0, x32, x104000, x104001, x104002 => if x32 = true then (if 8 ≤ (x0.length : Int) then ((some (x0.take 8 : List Int)).bind fun y115 => (impl_takeValue.l0 k x0 0 y115 (y115.length : Int) 0 x104000 x104001 x104002)) else (none)) else (if x104000 = 3 then ((impl_takeText.f k x0).bind fun bt126 => (some (x104000, x104001, bt126.1, bt126.2))) else (some (x104000, x104001, x104002, x0)))
def impl_takeValue.l0 : Nat → List Int → Int → List Int → Int → Int → Int → Int → ByteArray → Option (Int × Int × ByteArray × List Int)
  | 0, _, _, _, _, _, _, _, _ => none
  | k + 1, x0, x5, x42, x43, x44, x104000, x104001, x104002 => if x44 < x43 then (if 0 ≤ x44 then (if x44 < (x42.length : Int) then (impl_takeValue.l0 k x0 (Go.bits .or .u64 (IntKind.u64.wrap (x5 * 256)) (IntKind.u64.wrap (rd x42 x44))) x42 x43 (wrap64 (x44 + 1)) x104000 x104001 x104002) else (none)) else (none)) else (if 8 ≤ (x0.length : Int) then (some (x104000, wrap64 ((wrap64 (x5)) - 4611686018427387904), x104002, (x0.drop 8))) else (none))
end
def impl_takeValue.f (k : Nat) (l0 : List Int) : Option (Int × Int × ByteArray × List Int) := if 0 < (l0.length : Int) then (if 1 ≤ (l0.length : Int) then ((some (l0.drop 1 : List Int)).bind fun y104 => (if (wrap64 ((wrap64 (rd l0 0)) - 1)) = 1 then (impl_takeValue.j0 k y104 (decide ((y104.length : Int) > 0)) (wrap64 ((wrap64 (rd l0 0)) - 1)) 0 (⟨#[]⟩ : ByteArray)) else (impl_takeValue.j0 k y104 false (wrap64 ((wrap64 (rd l0 0)) - 1)) 0 (⟨#[]⟩ : ByteArray)))) else (none)) else (none)
set_option maxHeartbeats 8000000 in
set_option maxRecDepth 100000 in
theorem impl_takeValue.calls (k : Nat) (P0_ : Nat → Prop) (A0 : Option Addr) (c0 : Nat) (l0 : List Int) (r1 : Int) (r2 : Int) (r3 : ByteArray) (r4 : List Int) (w : World) (hs0 : Kd.V (Kd.int .u8) 5 w w.heap.size (fun k_ => P0_ k_) (.slice A0 l0.length c0) l0) (h : impl_takeValue.f k l0 = some (r1, r2, r3, r4)) :
    Calls Try.prog 66 #[.slice A0 l0.length c0] w fun e w' => ∃ v3_ : Value, e = .returned (.tuple #[.agg #[.int .i64 r1, .int .i64 r2, .string r3], v3_]) ∧ Kd.V (Kd.int .u8) 5 w' w.heap.size (fun k_ => (P0_ k_ ∨ w.heap.size ≤ k_)) v3_ r4 ∧ Below w.heap.size w w' := by
  have hu28 := Try.underlying28
  have HO0 := Aside0.mk (show Kd.V (Kd.int .u8) 5 w w.heap.size (fun k_ => (P0_ k_ ∨ w.heap.size ≤ k_)) (.slice A0 l0.length c0) l0 from Kd.V_mono hs0 (fun k_ hk => .inl hk))
  have HB := Aside0.mk (Below.refl w.heap.size w)
  have H : (if 0 < (l0.length : Int) then (if 1 ≤ (l0.length : Int) then ((some (l0.drop 1 : List Int)).bind fun y104 => (if (wrap64 ((wrap64 (rd l0 0)) - 1)) = 1 then (impl_takeValue.j0 k y104 (decide ((y104.length : Int) > 0)) (wrap64 ((wrap64 (rd l0 0)) - 1)) 0 (⟨#[]⟩ : ByteArray)) else (impl_takeValue.j0 k y104 false (wrap64 ((wrap64 (rd l0 0)) - 1)) 0 (⟨#[]⟩ : ByteArray)))) else (none)) else (none)) = some (r1, r2, r3, r4) := h
  clear h
  by_cases c2 : 0 < (l0.length : Int)
  · rw [if_pos c2] at H
    have c2b0 : decide (0 < (l0.length : Int)) = true := decide_eq_true c2
    have c2b1 : decide (0 < l0.length) = true := decide_eq_true (by omega)
    clear c2
    by_cases c3 : 1 ≤ (l0.length : Int)
    · rw [if_pos c3] at H
      have c3b0 := eq_true c3
      have c3b1 : decide (1 ≤ (l0.length : Int)) = true := decide_eq_true c3
      clear c3
      obtain ⟨y104, hy104⟩ : ∃ y_ : List Int, y_ = (l0.drop 1) := ⟨_, rfl⟩
      replace H : (if (wrap64 ((wrap64 (rd l0 0)) - 1)) = 1 then (impl_takeValue.j0 k y104 (decide ((y104.length : Int) > 0)) (wrap64 ((wrap64 (rd l0 0)) - 1)) 0 (⟨#[]⟩ : ByteArray)) else (impl_takeValue.j0 k y104 false (wrap64 ((wrap64 (rd l0 0)) - 1)) 0 (⟨#[]⟩ : ByteArray))) = some (r1, r2, r3, r4) := by first | (rw [hy104]; with_reducible exact H) | (have H2_ := (Option.bind_some _ _).symm.trans H; rw [hy104]; with_reducible exact H2_) | (have H2_ := (Option.bind_some _ _).symm.trans H; with_reducible exact H2_) | with_reducible exact H | (rw [hy104]; exact H) | exact H
      have Ny104 := Aside0.mk hy104
      clear hy104
      have HC4 := Aside0.mk H
      clear H
      go_enter Try.func66, Try.ntmps66
      go_upto_region 3 with (first | ((with_reducible refine gate_dst (N := 2) rfl ?_); (try (refine gate_guard (by rfl) ?_; dsimp only)); refine box_event ?hg (N := 2) ?hd (cs := #[.int .i64 0, .int .i64 0, .string (⟨#[]⟩ : ByteArray)]) (t := 28) ?hr ?_; (case hd => rfl); (case hg => rfl); (case hr => first | (go_simp; done) | (go_simp; rfl)); intro gb101 hg w5 hbox hb; have n0_ := Aside0.mk (Kd.V_below (Kd.V_elderB (by (with_reducible repeat (first | apply Kd.V_alloc | apply Kd.V_drewN | apply Kd.V_drew)); exact HO0.out) gb101 (Nat.le_of_eq hg.symm)) hb); have n1_ := Aside0.mk (below_step (by repeat (first | (with_reducible first | exact HB.out | apply below_alloc | apply pw_below_drewN | apply below_drew1) | exact HB.out)) hb); have n2_ := Aside0.mk (hbox); have n3_ := Aside0.mk ((by rw [hg]; exact (below_size (by repeat (first | (with_reducible first | exact HB.out | apply below_alloc | apply pw_below_drewN | apply below_drew1) | exact HB.out))) : w.heap.size ≤ gb101)); have n4_ := Aside0.mk ((by rw [hg]; exact (below_size (by repeat (first | (with_reducible first | exact HB.out | apply below_alloc | apply pw_below_drewN | apply below_drew1) | exact HB.out))) : w.heap.size ≤ gb101)); clear HO0; clear HB; have HO0 := n0_; have HB := n1_; have BK101 := n2_; have GW101 := n3_; have GE101 := n4_; clear n0_ n1_ n2_ n3_ n4_; clear hb hbox hg; have p102 : 0 ≤ (0 : Int) := (by omega); have q102 : 0 < (l0.length : Int) := of_decide_eq_true (by first | (with_reducible assumption) | assumption); obtain ⟨ad102, e102, hx102_0⟩ := Kd.at_int (Kd.V_reads' HO0.out).2.2 0 p102 q102; cases e102; have qi102 : (0 < l0.length) = True := eq_true (by omega); (try rw [show ((0 : Int)).toNat = 0 from rfl] at hx102_0); (try rw [Addr.add_zero'] at hx102_0); replace p102 := eq_true p102; replace q102 := eq_true q102) | ((with_reducible refine gate_dst (N := 4) rfl ?_); (try (refine gate_guard (by rfl) ?_; dsimp only)); refine box_event ?hg (N := 4) ?hd (cs := #[.int .i64 0, .int .i64 0, .string (⟨#[]⟩ : ByteArray)]) (t := 28) ?hr ?_; (case hd => rfl); (case hg => rfl); (case hr => first | (go_simp; done) | (go_simp; rfl)); intro gb103 hg w6 hbox hb; have n0_ := Aside0.mk (Kd.V_below (Kd.V_elderB (by (with_reducible repeat (first | apply Kd.V_alloc | apply Kd.V_drewN | apply Kd.V_drew)); exact HO0.out) gb103 (Nat.le_of_eq hg.symm)) hb); have n1_ := Aside0.mk (blk_below (g := gb101) (o := .cells #[.int .i64 0, .int .i64 0, .string (⟨#[]⟩ : ByteArray)] 28 (0, 0)) (by (with_reducible repeat (first | refine blk_drewN ?_ _ | refine blk_drew ?_ | refine blk_alloc ?_ _)); exact BK101.out) hb); have n2_ := Aside0.mk (below_step (by repeat (first | (with_reducible first | exact HB.out | apply below_alloc | apply pw_below_drewN | apply below_drew1 | refine below_set ?_ GE101.out) | exact HB.out)) hb); have n3_ := Aside0.mk (hbox); have n4_ := Aside0.mk ((by rw [hg]; exact (below_size (by repeat (first | (with_reducible first | exact HB.out | apply below_alloc | apply pw_below_drewN | apply below_drew1 | refine below_set ?_ GE101.out) | exact HB.out))) : w.heap.size ≤ gb103)); have n5_ := Aside0.mk ((by rw [hg]; exact (below_size (by repeat (first | (with_reducible first | exact HB.out | apply below_alloc | apply pw_below_drewN | apply below_drew1 | refine below_set ?_ GE101.out) | exact HB.out))) : w.heap.size ≤ gb103)); have n6_ := Aside0.mk ((by rw [hg]; exact Nat.ne_of_lt (blk_lt (g := gb101) (o := .cells #[.int .i64 0, .int .i64 0, .string (⟨#[]⟩ : ByteArray)] 28 (0, 0)) (by (with_reducible repeat (first | refine blk_drewN ?_ _ | refine blk_drew ?_ | refine blk_alloc ?_ _)); exact BK101.out)) : gb101 ≠ gb103)); have n7_ := Aside0.mk ((by rw [hg]; exact Nat.ne_of_gt (blk_lt (g := gb101) (o := .cells #[.int .i64 0, .int .i64 0, .string (⟨#[]⟩ : ByteArray)] 28 (0, 0)) (by (with_reducible repeat (first | refine blk_drewN ?_ _ | refine blk_drew ?_ | refine blk_alloc ?_ _)); exact BK101.out)) : gb103 ≠ gb101)); clear HO0; clear BK101; clear HB; have HO0 := n0_; have BK101 := n1_; have HB := n2_; have BK103 := n3_; have GW103 := n4_; have GE103 := n5_; have NB101_103 := n6_; have NB103_101 := n7_; clear n0_ n1_ n2_ n3_ n4_ n5_ n6_ n7_; clear hb hbox hg; have hnb7 := NB103_101.out; have hnc7 := NB101_103.out; have hcz8_0 : w6.cell? ⟨gb103, 0, none⟩ = some (.int .i64 0) := (blk_cell BK103.out 0).trans rfl; have hcz8_1 : w6.cell? ⟨gb103, 1, none⟩ = some (.int .i64 0) := (blk_cell BK103.out 1).trans rfl; have hcz8_2 : w6.cell? ⟨gb103, 2, none⟩ = some (.string (⟨#[]⟩ : ByteArray)) := (blk_cell BK103.out 2).trans rfl; have hfz8_0 := blk_frozen BK103.out 0; have hfz8_1 := blk_frozen BK103.out 1; have hfz8_2 := blk_frozen BK103.out 2) | ((with_reducible refine gate_store (t := 28) (p := 4) rfl ?_); refine store_event (t := 28) (p := 4) (v := ?vo_w9) (w1 := (((w6.setCell ⟨gb103, 0, none⟩ (.int .i64 (wrap64 ((wrap64 (rd l0 0)) - 1)))).setCell ⟨gb103, 1, none⟩ (.int .i64 0)).setCell ⟨gb103, 2, none⟩ (.string (⟨#[]⟩ : ByteArray)))) ?hg ?ho ?hn ?hr ?_; (case ho => rfl); (case hg => rfl); (case hn => rfl); (case hr => first | (go_simp; done) | (go_simp; rfl)); intro w9 hw; have n0_ : Aside0 (Kd.V (Kd.int .u8) 5 w9 w.heap.size (fun k_ => (P0_ k_ ∨ w.heap.size ≤ k_) ∧ k_ ≠ gb101 ∧ k_ ≠ gb103) (.slice (some ad102) l0.length c0) l0) := ⟨(by rw [hw]; exact (by (with_reducible repeat (first | apply Kd.V_alloc | apply Kd.V_drewN | apply Kd.V_drew)); exact Kd.V_mono (Kd.V_far (p := ⟨gb103, 2, none⟩) (Kd.V_far (p := ⟨gb103, 1, none⟩) (Kd.V_far (p := ⟨gb103, 0, none⟩) (Kd.V_mono HO0.out (fun k_ hk => (⟨hk, hk.2⟩ : _ ∧ k_ ≠ gb103))) (fun _ hk => hk.2) (.int .i64 (wrap64 ((wrap64 (rd l0 0)) - 1)))) (fun _ hk => hk.2) (.int .i64 0)) (fun _ hk => hk.2) (.string (⟨#[]⟩ : ByteArray))) (fun _ hk => ⟨hk.1.1.1, ⟨hk.1.1.2, hk.1.2⟩⟩)))⟩; have n1_ : Aside0 (w9.heap[gb101]? = some (.cells #[.int .i64 0, .int .i64 0, .string (⟨#[]⟩ : ByteArray)] 28 (0, 0))) := ⟨(by rw [hw]; exact (by (with_reducible repeat (first | refine blk_drewN ?_ _ | refine blk_drew ?_ | refine blk_alloc ?_ _)); refine blk_far ?_ NB101_103.out _; (with_reducible repeat (first | refine blk_drewN ?_ _ | refine blk_drew ?_ | refine blk_alloc ?_ _)); refine blk_far ?_ NB101_103.out _; (with_reducible repeat (first | refine blk_drewN ?_ _ | refine blk_drew ?_ | refine blk_alloc ?_ _)); refine blk_far ?_ NB101_103.out _; (with_reducible repeat (first | refine blk_drewN ?_ _ | refine blk_drew ?_ | refine blk_alloc ?_ _)); exact BK101.out))⟩; have n2_ : Aside0 (w9.heap[gb103]? = some (.cells #[.int .i64 (wrap64 ((wrap64 (rd l0 0)) - 1)), .int .i64 0, .string (⟨#[]⟩ : ByteArray)] 28 (0, 0))) := ⟨(by rw [hw]; exact (by (with_reducible repeat (first | refine blk_drewN ?_ _ | refine blk_drew ?_ | refine blk_alloc ?_ _)); refine blk_put (cs := #[.int .i64 (wrap64 ((wrap64 (rd l0 0)) - 1)), .int .i64 0, .string (⟨#[]⟩ : ByteArray)]) ?_ 2 _ rfl; (with_reducible repeat (first | refine blk_drewN ?_ _ | refine blk_drew ?_ | refine blk_alloc ?_ _)); refine blk_put (cs := #[.int .i64 (wrap64 ((wrap64 (rd l0 0)) - 1)), .int .i64 0, .string (⟨#[]⟩ : ByteArray)]) ?_ 1 _ rfl; (with_reducible repeat (first | refine blk_drewN ?_ _ | refine blk_drew ?_ | refine blk_alloc ?_ _)); refine blk_put (cs := #[.int .i64 0, .int .i64 0, .string (⟨#[]⟩ : ByteArray)]) ?_ 0 _ rfl; (with_reducible repeat (first | refine blk_drewN ?_ _ | refine blk_drew ?_ | refine blk_alloc ?_ _)); exact BK103.out))⟩; have n3_ : Aside0 (Below w.heap.size w w9) := ⟨(by rw [hw]; exact (by repeat (first | (with_reducible first | exact HB.out | apply below_alloc | apply pw_below_drewN | apply below_drew1 | refine below_set ?_ GE101.out | refine below_set ?_ GE103.out) | exact HB.out)))⟩; clear hw; clear HO0; clear BK101; clear BK103; clear HB; have HO0 := n0_; have BK101 := n1_; have BK103 := n2_; have HB := n3_; clear n0_ n1_ n2_ n3_; have q10 : (1 : Int) ≤ ((l0.length : Int) : Int) := of_decide_eq_true (by first | (with_reducible assumption) | assumption); obtain ⟨i010, hi010, _, hsz10, _⟩ := info_parts info5; have hroom10 : l0.length ≤ c0 := (Kd.V_reads' HO0.out).2.1; have hC10 : Kd.F (Kd.int .u8) _ _ (some ad102) l0.length l0 := (Kd.V_at (base := w.heap.size) HO0.out).2.2; have hcut10 := cut_from (P := Try.prog) 50 5 .i64 Try.underlying50 hi010 1 hsz10 (some ad102) l0.length c0 1 (by omega) q10; have hr10 := Kd.F_cut (m := (1 : Int).toNat) (c := c0) hC10 (by omega) hroom10; obtain ⟨A10, hA10⟩ : ∃ A1, A1 = (if c0 = (1 : Int).toNat then (some ad102) else ((some ad102) : Option Addr).map (·.add ((1 : Int).toNat * 1))) := ⟨_, rfl⟩; obtain ⟨c10, hc10⟩ : ∃ c1, c1 = c0 - (1 : Int).toNat := ⟨_, rfl⟩; have hy10 : y104.length = l0.length - (1 : Int).toNat := (by rw [Ny104.out, List.length_drop] <;> omega); rw [show (l0).drop (1 : Int).toNat = y104 from Ny104.out.symm] at hr10; replace hr10 : Kd.F (Kd.int .u8) _ _ A10 y104.length y104 := (by rw [hA10]; exact hr10); rw [← hy10, ← hA10, ← hc10] at hcut10; have HO108 := Aside0.mk (show Kd.V (Kd.int .u8) 5 _ w.heap.size _ (.slice A10 y104.length c10) y104 from Kd.V_mk (by rw [hy10, hc10]; exact Nat.sub_le_sub_right hroom10 _) hr10); have HC108 := Aside0.mk (show y104.length ≤ c10 from by rw [hy10, hc10]; exact Nat.sub_le_sub_right hroom10 _); clear hr10 hC10 hroom10 hi010 hsz10 hc10; have KY10 := Aside0.mk hy10; have KA10 := Aside0.mk hA10; clear hy10 hA10; replace q10 := eq_true q10))
      (try simp only [Act.put, List.setIfInBounds_toArray, List.set_cons_zero, List.set_cons_succ])
      go_cut [16] (fun v16 wc => ∃ (kq : Nat) (x16_3 : Bool), v16 = .bool x16_3 ∧ Aside0 (impl_takeValue.j0 kq y104 x16_3 (wrap64 ((wrap64 (rd l0 0)) - 1)) 0 (⟨#[]⟩ : ByteArray) = some (r1, r2, r3, r4)) ∧ Aside0 (kq ≤ k) ∧ Aside0 (Kd.V (Kd.int .u8) 5 wc w.heap.size (fun k_ => (P0_ k_ ∨ w.heap.size ≤ k_) ∧ k_ ≠ gb101 ∧ k_ ≠ gb103) (.slice A10 y104.length c10) y104) ∧ Aside0 (wc.heap[gb101]? = some (.cells #[.int .i64 0, .int .i64 0, .string (⟨#[]⟩ : ByteArray)] 28 (0, 0))) ∧ Aside0 (wc.heap[gb103]? = some (.cells #[.int .i64 (wrap64 ((wrap64 (rd l0 0)) - 1)), .int .i64 0, .string (⟨#[]⟩ : ByteArray)] 28 (0, 0))) ∧ Aside0 (Below w.heap.size w wc))
      case first =>
        have H := HC4.out
        clear HC4
        by_cases c11 : (wrap64 ((wrap64 (rd l0 0)) - 1)) = 1
        · rw [if_pos c11] at H
          have c11b0 : ((wrap64 ((wrap64 (rd l0 0)) - 1)) == 1) = true := beq_iff_eq.mpr c11
          have c11b1 : ((wrap64 ((wrap64 (rd l0 0)) - 1)) != 1) = false := bne_eq_false_iff_eq.mpr c11
          clear c11
          (first | rw [c11b0] | (simp only [i64_w, i32_w]; rw [c11b0]) | skip)
          have H' := Aside0.mk H
          clear H
          have hnb12 := NB103_101.out
          have hnc12 := NB101_103.out
          have hcz13_0 : w9.cell? ⟨gb103, 0, none⟩ = some (.int .i64 (wrap64 ((wrap64 (rd l0 0)) - 1))) := (blk_cell BK103.out 0).trans rfl
          have hcz13_1 : w9.cell? ⟨gb103, 1, none⟩ = some (.int .i64 0) := (blk_cell BK103.out 1).trans rfl
          have hcz13_2 : w9.cell? ⟨gb103, 2, none⟩ = some (.string (⟨#[]⟩ : ByteArray)) := (blk_cell BK103.out 2).trans rfl
          have hfz13_0 := blk_frozen BK103.out 0
          have hfz13_1 := blk_frozen BK103.out 1
          have hfz13_2 := blk_frozen BK103.out 2
          go_wp2
          go_meet
          case rel => exact ⟨_, (decide ((y104.length : Int) > 0)), (by first | rfl | (simp; done) | (simp [*]; done)), H', ⟨by first | omega | exact Nat.le_refl _⟩, ⟨by (with_reducible repeat (first | apply Kd.V_alloc | apply Kd.V_drewN | apply Kd.V_drew)); exact HO108.out⟩, ⟨by (with_reducible repeat (first | refine blk_drewN ?_ _ | refine blk_drew ?_ | refine blk_alloc ?_ _)); exact BK101.out⟩, ⟨by (with_reducible repeat (first | refine blk_drewN ?_ _ | refine blk_drew ?_ | refine blk_alloc ?_ _)); exact BK103.out⟩, ⟨by repeat (first | (with_reducible first | exact HB.out | apply below_alloc | apply pw_below_drewN | apply below_drew1 | refine below_set ?_ GE101.out | refine below_set ?_ GE103.out) | exact HB.out)⟩⟩
        · rw [if_neg c11] at H
          have c11b0 : ((wrap64 ((wrap64 (rd l0 0)) - 1)) == 1) = false := beq_eq_false_iff_ne.mpr c11
          have c11b1 : ((wrap64 ((wrap64 (rd l0 0)) - 1)) != 1) = true := bne_iff_ne.mpr c11
          (first | rw [c11b0] | (simp only [i64_w, i32_w]; rw [c11b0]) | skip)
          have H' := Aside0.mk H
          clear H
          have hnb14 := NB103_101.out
          have hnc14 := NB101_103.out
          have hcz15_0 : w9.cell? ⟨gb103, 0, none⟩ = some (.int .i64 (wrap64 ((wrap64 (rd l0 0)) - 1))) := (blk_cell BK103.out 0).trans rfl
          have hcz15_1 : w9.cell? ⟨gb103, 1, none⟩ = some (.int .i64 0) := (blk_cell BK103.out 1).trans rfl
          have hcz15_2 : w9.cell? ⟨gb103, 2, none⟩ = some (.string (⟨#[]⟩ : ByteArray)) := (blk_cell BK103.out 2).trans rfl
          have hfz15_0 := blk_frozen BK103.out 0
          have hfz15_1 := blk_frozen BK103.out 1
          have hfz15_2 := blk_frozen BK103.out 2
          go_wp2
          go_meet
          case rel => exact ⟨_, (false), (by first | rfl | (simp; done) | (simp [*]; done)), H', ⟨by first | omega | exact Nat.le_refl _⟩, ⟨by (with_reducible repeat (first | apply Kd.V_alloc | apply Kd.V_drewN | apply Kd.V_drew)); exact HO108.out⟩, ⟨by (with_reducible repeat (first | refine blk_drewN ?_ _ | refine blk_drew ?_ | refine blk_alloc ?_ _)); exact BK101.out⟩, ⟨by (with_reducible repeat (first | refine blk_drewN ?_ _ | refine blk_drew ?_ | refine blk_alloc ?_ _)); exact BK103.out⟩, ⟨by repeat (first | (with_reducible first | exact HB.out | apply below_alloc | apply pw_below_drewN | apply below_drew1 | refine below_set ?_ GE101.out | refine below_set ?_ GE103.out) | exact HB.out)⟩⟩
      case rest =>
        clear HC4
        try clear c1
        try clear p1
        try clear q1
        try clear hx1
        try clear qi1
        try clear c2
        try clear c2b0
        try clear c2b1
        try clear p2
        try clear c3
        try clear c3b0
        try clear c3b1
        try clear c6
        try clear p6
        try clear c7
        try clear c10
        try clear p10
        try clear q10
        try clear hx10
        try clear qi10
        try clear c11
        try clear c11b0
        try clear c11b1
        try clear c12
        try clear c14
        try clear hcz13_0
        try clear hcz13_1
        try clear hcz13_2
        try clear hcz15_0
        try clear hcz15_1
        try clear hcz15_2
        try clear hcz8_0
        try clear hcz8_1
        try clear hcz8_2
        try clear hfz13_0
        try clear hfz13_1
        try clear hfz13_2
        try clear hfz15_0
        try clear hfz15_1
        try clear hfz15_2
        try clear hfz8_0
        try clear hfz8_1
        try clear hfz8_2
        try clear hx102_0
        try clear p102
        try clear q10
        try clear q102
        obtain ⟨kq, x16_3, rfl, HA, HJ3, HO_0, BK101, BK103, HB⟩ := hcut
        cases kq with
        | zero => exact absurd HA.out (by simp [impl_takeValue.j0])
        | succ kj3 =>
          have H := HA.out
          clear HA
          simp only [impl_takeValue.j0] at H
          by_cases c16 : x16_3 = true
          · subst c16
            have H1 : (if 0 < (y104.length : Int) then (if 1 ≤ (y104.length : Int) then (some ((wrap64 ((wrap64 (rd l0 0)) - 1)), wrap64 (rd y104 0), (⟨#[]⟩ : ByteArray), (y104.drop 1))) else (none)) else (none)) = some (r1, r2, r3, r4) := by rw [if_pos rfl] at H; exact H
            clear H
            have H := H1
            clear H1
            by_cases c17 : 0 < (y104.length : Int)
            · rw [if_pos c17] at H
              have c17b0 : decide (0 < (y104.length : Int)) = true := decide_eq_true c17
              have c17b1 : decide (0 < y104.length) = true := decide_eq_true (by omega)
              clear c17
              by_cases c18 : 1 ≤ (y104.length : Int)
              · rw [if_pos c18] at H
                have c18b0 := eq_true c18
                have c18b1 : decide (1 ≤ (y104.length : Int)) = true := decide_eq_true c18
                clear c18
                obtain ⟨y110, hy110⟩ : ∃ y_ : List Int, y_ = (y104.drop 1) := ⟨_, rfl⟩
                replace H : (some ((wrap64 ((wrap64 (rd l0 0)) - 1)), wrap64 (rd y104 0), (⟨#[]⟩ : ByteArray), y110)) = some (r1, r2, r3, r4) := by first | (rw [hy110]; with_reducible exact H) | (have H2_ := (Option.bind_some _ _).symm.trans H; rw [hy110]; with_reducible exact H2_) | (have H2_ := (Option.bind_some _ _).symm.trans H; with_reducible exact H2_) | with_reducible exact H | (rw [hy110]; exact H) | exact H
                have Ny110 := Aside0.mk hy110
                clear hy110
                simp only [Option.some.injEq, Prod.mk.injEq] at H
                obtain ⟨rfl, rfl, rfl, rfl⟩ := H
                have p109 : 0 ≤ (0 : Int) := (by omega)
                have q109 : 0 < (y104.length : Int) := of_decide_eq_true (by first | (with_reducible assumption) | assumption)
                obtain ⟨ad109, e109, hx109_0⟩ := Kd.at_int (Kd.V_reads' HO_0.out).2.2 0 p109 q109
                cases e109
                have qi109 : (0 < y104.length) = True := eq_true (by omega)
                (try rw [show ((0 : Int)).toNat = 0 from rfl] at hx109_0)
                (try rw [Addr.add_zero'] at hx109_0)
                replace p109 := eq_true p109
                replace q109 := eq_true q109
                have hnb19 := NB103_101.out
                have hnc19 := NB101_103.out
                have hcz20_0 : wc.cell? ⟨gb103, 0, none⟩ = some (.int .i64 (wrap64 ((wrap64 (rd l0 0)) - 1))) := (blk_cell BK103.out 0).trans rfl
                have hcz20_1 : wc.cell? ⟨gb103, 1, none⟩ = some (.int .i64 0) := (blk_cell BK103.out 1).trans rfl
                have hcz20_2 : wc.cell? ⟨gb103, 2, none⟩ = some (.string (⟨#[]⟩ : ByteArray)) := (blk_cell BK103.out 2).trans rfl
                have hfz20_0 := blk_frozen BK103.out 0
                have hfz20_1 := blk_frozen BK103.out 1
                have hfz20_2 := blk_frozen BK103.out 2
                go_wp2_with (first | ((with_reducible refine gate_store (t := 3) (p := 29) rfl ?_); refine store_event (t := 3) (p := 29) (v := ?vo_w21) (w1 := (wc.setCell ⟨gb103, 1, none⟩ (.int .i64 (wrap64 (rd y104 0))))) ?hg ?ho ?hn ?hr ?_; (case ho => rfl); (case hg => rfl); (case hn => rfl); (case hr => first | (go_simp; done) | (go_simp; rfl)); intro w21 hw; have n0_ : Aside0 (Kd.V (Kd.int .u8) 5 w21 w.heap.size (fun k_ => (P0_ k_ ∨ w.heap.size ≤ k_) ∧ k_ ≠ gb101 ∧ k_ ≠ gb103) (.slice (some ad109) y104.length c10) y104) := ⟨(by rw [hw]; exact (by (with_reducible repeat (first | apply Kd.V_alloc | apply Kd.V_drewN | apply Kd.V_drew)); exact Kd.V_mono (Kd.V_far (p := ⟨gb103, 1, none⟩) (Kd.V_mono HO_0.out (fun k_ hk => (⟨hk, hk.2.2⟩ : _ ∧ k_ ≠ gb103))) (fun _ hk => hk.2) (.int .i64 (wrap64 (rd y104 0)))) (fun _ hk => ⟨hk.1.1, ⟨hk.1.2.1, hk.1.2.2⟩⟩)))⟩; have n1_ : Aside0 (w21.heap[gb101]? = some (.cells #[.int .i64 0, .int .i64 0, .string (⟨#[]⟩ : ByteArray)] 28 (0, 0))) := ⟨(by rw [hw]; exact (by (with_reducible repeat (first | refine blk_drewN ?_ _ | refine blk_drew ?_ | refine blk_alloc ?_ _)); refine blk_far ?_ NB101_103.out _; (with_reducible repeat (first | refine blk_drewN ?_ _ | refine blk_drew ?_ | refine blk_alloc ?_ _)); exact BK101.out))⟩; have n2_ : Aside0 (w21.heap[gb103]? = some (.cells #[.int .i64 (wrap64 ((wrap64 (rd l0 0)) - 1)), .int .i64 (wrap64 (rd y104 0)), .string (⟨#[]⟩ : ByteArray)] 28 (0, 0))) := ⟨(by rw [hw]; exact (by (with_reducible repeat (first | refine blk_drewN ?_ _ | refine blk_drew ?_ | refine blk_alloc ?_ _)); refine blk_put (cs := #[.int .i64 (wrap64 ((wrap64 (rd l0 0)) - 1)), .int .i64 0, .string (⟨#[]⟩ : ByteArray)]) ?_ 1 _ rfl; (with_reducible repeat (first | refine blk_drewN ?_ _ | refine blk_drew ?_ | refine blk_alloc ?_ _)); exact BK103.out))⟩; have n3_ : Aside0 (Below w.heap.size w w21) := ⟨(by rw [hw]; exact (by repeat (first | (with_reducible first | exact HB.out | apply below_alloc | apply pw_below_drewN | apply below_drew1 | refine below_set ?_ GE101.out | refine below_set ?_ GE103.out) | exact HB.out)))⟩; clear hw; clear HO_0; clear BK101; clear BK103; clear HB; have HO_0 := n0_; have BK101 := n1_; have BK103 := n2_; have HB := n3_; clear n0_ n1_ n2_ n3_; have q22 : (1 : Int) ≤ ((y104.length : Int) : Int) := of_decide_eq_true (by first | (with_reducible assumption) | assumption); obtain ⟨i022, hi022, _, hsz22, _⟩ := info_parts info5; have hroom22 : y104.length ≤ c10 := (Kd.V_reads' HO_0.out).2.1; have hC22 : Kd.F (Kd.int .u8) _ _ (some ad109) y104.length y104 := (Kd.V_at (base := w.heap.size) HO_0.out).2.2; have hcut22 := cut_from (P := Try.prog) 50 5 .i64 Try.underlying50 hi022 1 hsz22 (some ad109) y104.length c10 1 (by omega) q22; have hr22 := Kd.F_cut (m := (1 : Int).toNat) (c := c10) hC22 (by omega) hroom22; obtain ⟨A22, hA22⟩ : ∃ A1, A1 = (if c10 = (1 : Int).toNat then (some ad109) else ((some ad109) : Option Addr).map (·.add ((1 : Int).toNat * 1))) := ⟨_, rfl⟩; obtain ⟨c22, hc22⟩ : ∃ c1, c1 = c10 - (1 : Int).toNat := ⟨_, rfl⟩; have hy22 : y110.length = y104.length - (1 : Int).toNat := (by rw [Ny110.out, List.length_drop] <;> omega); rw [show (y104).drop (1 : Int).toNat = y110 from Ny110.out.symm] at hr22; replace hr22 : Kd.F (Kd.int .u8) _ _ A22 y110.length y110 := (by rw [hA22]; exact hr22); rw [← hy22, ← hA22, ← hc22] at hcut22; have HO114 := Aside0.mk (show Kd.V (Kd.int .u8) 5 _ w.heap.size _ (.slice A22 y110.length c22) y110 from Kd.V_mk (by rw [hy22, hc22]; exact Nat.sub_le_sub_right hroom22 _) hr22); have HC114 := Aside0.mk (show y110.length ≤ c22 from by rw [hy22, hc22]; exact Nat.sub_le_sub_right hroom22 _); clear hr22 hC22 hroom22 hi022 hsz22 hc22; have KY22 := Aside0.mk hy22; have KA22 := Aside0.mk hA22; clear hy22 hA22; replace q22 := eq_true q22; have hcz23_0 : w21.cell? ⟨gb103, 0, none⟩ = some (.int .i64 (wrap64 ((wrap64 (rd l0 0)) - 1))) := (blk_cell BK103.out 0).trans rfl; have hcz23_1 : w21.cell? ⟨gb103, 1, none⟩ = some (.int .i64 (wrap64 (rd y104 0))) := (blk_cell BK103.out 1).trans rfl; have hcz23_2 : w21.cell? ⟨gb103, 2, none⟩ = some (.string (⟨#[]⟩ : ByteArray)) := (blk_cell BK103.out 2).trans rfl; have hfz23_0 := blk_frozen BK103.out 0; have hfz23_1 := blk_frozen BK103.out 1; have hfz23_2 := blk_frozen BK103.out 2; have hcz24_0 : w21.cell? ⟨gb101, 0, none⟩ = some (.int .i64 0) := (blk_cell BK101.out 0).trans rfl; have hcz24_1 : w21.cell? ⟨gb101, 1, none⟩ = some (.int .i64 0) := (blk_cell BK101.out 1).trans rfl; have hcz24_2 : w21.cell? ⟨gb101, 2, none⟩ = some (.string (⟨#[]⟩ : ByteArray)) := (blk_cell BK101.out 2).trans rfl; have hfz24_0 := blk_frozen BK101.out 0; have hfz24_1 := blk_frozen BK101.out 1; have hfz24_2 := blk_frozen BK101.out 2))
                refine bodyPost_ret (results_ct rfl _ _ gb101 28 #[.int .i64 (wrap64 ((wrap64 (rd l0 0)) - 1)), .int .i64 (wrap64 (rd y104 0)), .string (⟨#[]⟩ : ByteArray)] (0, 0) _ rfl (by (with_reducible repeat (first | refine blk_drewN ?_ _ | refine blk_drew ?_ | refine blk_alloc ?_ _)); refine blk_put (cs := #[.int .i64 (wrap64 ((wrap64 (rd l0 0)) - 1)), .int .i64 (wrap64 (rd y104 0)), .string (⟨#[]⟩ : ByteArray)]) ?_ 2 _ rfl; (with_reducible repeat (first | refine blk_drewN ?_ _ | refine blk_drew ?_ | refine blk_alloc ?_ _)); refine blk_put (cs := #[.int .i64 (wrap64 ((wrap64 (rd l0 0)) - 1)), .int .i64 0, .string (⟨#[]⟩ : ByteArray)]) ?_ 1 _ rfl; (with_reducible repeat (first | refine blk_drewN ?_ _ | refine blk_drew ?_ | refine blk_alloc ?_ _)); refine blk_put (cs := #[.int .i64 0, .int .i64 0, .string (⟨#[]⟩ : ByteArray)]) ?_ 0 _ rfl; (with_reducible repeat (first | refine blk_drewN ?_ _ | refine blk_drew ?_ | refine blk_alloc ?_ _)); exact BK101.out) Try.underlying28 rfl (by kernel_rfl)) rfl ?_
                exact ⟨_, by first | rfl | (simp [errW_none, errW_some] <;> rfl) | (simp [*, errW_none, errW_some] <;> rfl), by (with_reducible repeat (first | apply Kd.V_alloc | apply Kd.V_drewN | apply Kd.V_drew)); exact Kd.V_mono (Kd.V_far (p := ⟨gb101, 2, none⟩) (Kd.V_far (p := ⟨gb101, 1, none⟩) (Kd.V_far (p := ⟨gb101, 0, none⟩) (Kd.V_mono HO114.out (fun k_ hk => (⟨hk, hk.2.1⟩ : _ ∧ k_ ≠ gb101))) (fun _ hk => hk.2) (.int .i64 (wrap64 ((wrap64 (rd l0 0)) - 1)))) (fun _ hk => hk.2) (.int .i64 (wrap64 (rd y104 0)))) (fun _ hk => hk.2) (.string (⟨#[]⟩ : ByteArray))) (fun _ hk => hk.1.1), by repeat (first | (with_reducible first | exact HB.out | apply below_alloc | apply pw_below_drewN | apply below_drew1 | refine below_set ?_ GE101.out | refine below_set ?_ GE103.out) | exact HB.out)⟩
              · rw [if_neg c18] at H
                exact absurd H (by simp)
            · rw [if_neg c17] at H
              exact absurd H (by simp)
          · replace c16 := Bool.eq_false_iff.mpr c16
            subst c16
            have H1 : (if (wrap64 ((wrap64 (rd l0 0)) - 1)) = 2 then (impl_takeValue.j1 kj3 y104 (decide ((y104.length : Int) ≥ 8)) (wrap64 ((wrap64 (rd l0 0)) - 1)) 0 (⟨#[]⟩ : ByteArray)) else (impl_takeValue.j1 kj3 y104 false (wrap64 ((wrap64 (rd l0 0)) - 1)) 0 (⟨#[]⟩ : ByteArray))) = some (r1, r2, r3, r4) := by rw [if_neg (show ¬ (false = true) by decide)] at H; exact H
            clear H
            have H := H1
            clear H1
            have HC25 := Aside0.mk H
            clear H
            go_upto_region 6 with (fail)
            go_cut [32] (fun v32 wc => ∃ (kq : Nat) (x32_24 : Bool), v32 = .bool x32_24 ∧ Aside0 (impl_takeValue.j1 kq y104 x32_24 (wrap64 ((wrap64 (rd l0 0)) - 1)) 0 (⟨#[]⟩ : ByteArray) = some (r1, r2, r3, r4)) ∧ Aside0 (kq ≤ kj3) ∧ Aside0 (Kd.V (Kd.int .u8) 5 wc w.heap.size (fun k_ => (P0_ k_ ∨ w.heap.size ≤ k_) ∧ k_ ≠ gb101 ∧ k_ ≠ gb103) (.slice A10 y104.length c10) y104) ∧ Aside0 (wc.heap[gb101]? = some (.cells #[.int .i64 0, .int .i64 0, .string (⟨#[]⟩ : ByteArray)] 28 (0, 0))) ∧ Aside0 (wc.heap[gb103]? = some (.cells #[.int .i64 (wrap64 ((wrap64 (rd l0 0)) - 1)), .int .i64 0, .string (⟨#[]⟩ : ByteArray)] 28 (0, 0))) ∧ Aside0 (Below w.heap.size w wc))
            case first =>
              have H := HC25.out
              clear HC25
              by_cases c26 : (wrap64 ((wrap64 (rd l0 0)) - 1)) = 2
              · rw [if_pos c26] at H
                have c26b0 : ((wrap64 ((wrap64 (rd l0 0)) - 1)) == 2) = true := beq_iff_eq.mpr c26
                have c26b1 : ((wrap64 ((wrap64 (rd l0 0)) - 1)) != 2) = false := bne_eq_false_iff_eq.mpr c26
                clear c26
                (first | rw [c26b0] | (simp only [i64_w, i32_w]; rw [c26b0]) | skip)
                have H' := Aside0.mk H
                clear H
                have hnb27 := NB103_101.out
                have hnc27 := NB101_103.out
                have hcz28_0 : wc.cell? ⟨gb103, 0, none⟩ = some (.int .i64 (wrap64 ((wrap64 (rd l0 0)) - 1))) := (blk_cell BK103.out 0).trans rfl
                have hcz28_1 : wc.cell? ⟨gb103, 1, none⟩ = some (.int .i64 0) := (blk_cell BK103.out 1).trans rfl
                have hcz28_2 : wc.cell? ⟨gb103, 2, none⟩ = some (.string (⟨#[]⟩ : ByteArray)) := (blk_cell BK103.out 2).trans rfl
                have hfz28_0 := blk_frozen BK103.out 0
                have hfz28_1 := blk_frozen BK103.out 1
                have hfz28_2 := blk_frozen BK103.out 2
                go_wp2
                go_meet
                case rel => exact ⟨_, (decide ((y104.length : Int) ≥ 8)), (by first | rfl | (simp; done) | (simp [*]; done)), H', ⟨by have := HJ3.out; first | omega | exact Nat.le_refl _⟩, ⟨by (with_reducible repeat (first | apply Kd.V_alloc | apply Kd.V_drewN | apply Kd.V_drew)); exact HO_0.out⟩, ⟨by (with_reducible repeat (first | refine blk_drewN ?_ _ | refine blk_drew ?_ | refine blk_alloc ?_ _)); exact BK101.out⟩, ⟨by (with_reducible repeat (first | refine blk_drewN ?_ _ | refine blk_drew ?_ | refine blk_alloc ?_ _)); exact BK103.out⟩, ⟨by repeat (first | (with_reducible first | exact HB.out | apply below_alloc | apply pw_below_drewN | apply below_drew1 | refine below_set ?_ GE101.out | refine below_set ?_ GE103.out) | exact HB.out)⟩⟩
              · rw [if_neg c26] at H
                have c26b0 : ((wrap64 ((wrap64 (rd l0 0)) - 1)) == 2) = false := beq_eq_false_iff_ne.mpr c26
                have c26b1 : ((wrap64 ((wrap64 (rd l0 0)) - 1)) != 2) = true := bne_iff_ne.mpr c26
                (first | rw [c26b0] | (simp only [i64_w, i32_w]; rw [c26b0]) | skip)
                have H' := Aside0.mk H
                clear H
                have hnb29 := NB103_101.out
                have hnc29 := NB101_103.out
                have hcz30_0 : wc.cell? ⟨gb103, 0, none⟩ = some (.int .i64 (wrap64 ((wrap64 (rd l0 0)) - 1))) := (blk_cell BK103.out 0).trans rfl
                have hcz30_1 : wc.cell? ⟨gb103, 1, none⟩ = some (.int .i64 0) := (blk_cell BK103.out 1).trans rfl
                have hcz30_2 : wc.cell? ⟨gb103, 2, none⟩ = some (.string (⟨#[]⟩ : ByteArray)) := (blk_cell BK103.out 2).trans rfl
                have hfz30_0 := blk_frozen BK103.out 0
                have hfz30_1 := blk_frozen BK103.out 1
                have hfz30_2 := blk_frozen BK103.out 2
                go_wp2
                go_meet
                case rel => exact ⟨_, (false), (by first | rfl | (simp; done) | (simp [*]; done)), H', ⟨by have := HJ3.out; first | omega | exact Nat.le_refl _⟩, ⟨by (with_reducible repeat (first | apply Kd.V_alloc | apply Kd.V_drewN | apply Kd.V_drew)); exact HO_0.out⟩, ⟨by (with_reducible repeat (first | refine blk_drewN ?_ _ | refine blk_drew ?_ | refine blk_alloc ?_ _)); exact BK101.out⟩, ⟨by (with_reducible repeat (first | refine blk_drewN ?_ _ | refine blk_drew ?_ | refine blk_alloc ?_ _)); exact BK103.out⟩, ⟨by repeat (first | (with_reducible first | exact HB.out | apply below_alloc | apply pw_below_drewN | apply below_drew1 | refine below_set ?_ GE101.out | refine below_set ?_ GE103.out) | exact HB.out)⟩⟩
            case rest =>
              clear HC25
              try clear c1
              try clear p1
              try clear q1
              try clear hx1
              try clear qi1
              try clear c2
              try clear c2b0
              try clear c2b1
              try clear p2
              try clear q2
              try clear c3
              try clear c3b0
              try clear c3b1
              try clear c6
              try clear p6
              try clear c7
              try clear c10
              try clear p10
              try clear q10
              try clear hx10
              try clear qi10
              try clear c11
              try clear c11b0
              try clear c11b1
              try clear c12
              try clear c14
              try clear c16
              try clear c17
              try clear c17b0
              try clear c17b1
              try clear c18
              try clear c18b0
              try clear c18b1
              try clear c19
              try clear c22
              try clear q22
              try clear c26
              try clear c26b0
              try clear c26b1
              try clear c27
              try clear c29
              try clear hcz13_0
              try clear hcz13_1
              try clear hcz13_2
              try clear hcz15_0
              try clear hcz15_1
              try clear hcz15_2
              try clear hcz20_0
              try clear hcz20_1
              try clear hcz20_2
              try clear hcz23_0
              try clear hcz23_1
              try clear hcz23_2
              try clear hcz24_0
              try clear hcz24_1
              try clear hcz24_2
              try clear hcz28_0
              try clear hcz28_1
              try clear hcz28_2
              try clear hcz30_0
              try clear hcz30_1
              try clear hcz30_2
              try clear hcz8_0
              try clear hcz8_1
              try clear hcz8_2
              try clear hfz13_0
              try clear hfz13_1
              try clear hfz13_2
              try clear hfz15_0
              try clear hfz15_1
              try clear hfz15_2
              try clear hfz20_0
              try clear hfz20_1
              try clear hfz20_2
              try clear hfz23_0
              try clear hfz23_1
              try clear hfz23_2
              try clear hfz24_0
              try clear hfz24_1
              try clear hfz24_2
              try clear hfz28_0
              try clear hfz28_1
              try clear hfz28_2
              try clear hfz30_0
              try clear hfz30_1
              try clear hfz30_2
              try clear hfz8_0
              try clear hfz8_1
              try clear hfz8_2
              try clear hx102_0
              try clear hx109_0
              try clear p1
              try clear p10
              try clear p102
              try clear p109
              try clear p2
              try clear p6
              try clear q1
              try clear q10
              try clear q102
              try clear q109
              try clear q22
              obtain ⟨kq, x32_24, rfl, HA, HJ24, HO_0, BK101, BK103, HB⟩ := hcut
              cases kq with
              | zero => exact absurd HA.out (by simp [impl_takeValue.j1])
              | succ kj24 =>
                have H := HA.out
                clear HA
                simp only [impl_takeValue.j1] at H
                by_cases c31 : x32_24 = true
                · subst c31
                  have H1 : (if 8 ≤ (y104.length : Int) then ((some (y104.take 8 : List Int)).bind fun y115 => (impl_takeValue.l0 kj24 y104 0 y115 (y115.length : Int) 0 (wrap64 ((wrap64 (rd l0 0)) - 1)) 0 (⟨#[]⟩ : ByteArray))) else (none)) = some (r1, r2, r3, r4) := by rw [if_pos rfl] at H; exact H
                  clear H
                  have H := H1
                  clear H1
                  by_cases c32 : 8 ≤ (y104.length : Int)
                  · rw [if_pos c32] at H
                    have c32b0 := eq_true c32
                    have c32b1 : decide (8 ≤ (y104.length : Int)) = true := decide_eq_true c32
                    clear c32
                    obtain ⟨y115, hy115⟩ : ∃ y_ : List Int, y_ = (y104.take 8) := ⟨_, rfl⟩
                    replace H : (impl_takeValue.l0 kj24 y104 0 y115 (y115.length : Int) 0 (wrap64 ((wrap64 (rd l0 0)) - 1)) 0 (⟨#[]⟩ : ByteArray)) = some (r1, r2, r3, r4) := by first | (rw [hy115]; with_reducible exact H) | (have H2_ := (Option.bind_some _ _).symm.trans H; rw [hy115]; with_reducible exact H2_) | (have H2_ := (Option.bind_some _ _).symm.trans H; with_reducible exact H2_) | with_reducible exact H | (rw [hy115]; exact H) | exact H
                    have Ny115 := Aside0.mk hy115
                    clear hy115
                    have H' := Aside0.mk H
                    clear H
                    have q33 : (8 : Int) ≤ ((y104.length : Int) : Int) := of_decide_eq_true (by first | (with_reducible assumption) | assumption)
                    obtain ⟨i033, hi033, _, hsz33, _⟩ := info_parts info5
                    have hroom33 : y104.length ≤ c10 := (Kd.V_reads' HO_0.out).2.1
                    have hC33 : Kd.F (Kd.int .u8) _ _ A10 y104.length y104 := (Kd.V_at (base := w.heap.size) HO_0.out).2.2
                    have hcut33 := cut_to (P := Try.prog) 50 5 .i64 Try.underlying50 hi033 A10 y104.length c10 8 (by omega) q33 hroom33
                    have hr33 := Kd.F_take (m := 8) hC33 (by omega)
                    have hy33 : y115.length = (8 : Int).toNat := (by rw [Ny115.out, List.length_take]; omega)
                    rw [← Ny115.out] at hr33
                    rw [← hy33] at hcut33
                    have HO119 := Aside0.mk (show Kd.V (Kd.int .u8) 5 _ w.heap.size _ (.slice A10 y115.length c10) y115 from Kd.V_mk (by omega) hr33)
                    have HC119 := Aside0.mk (show y115.length ≤ c10 from by omega)
                    clear hr33 hC33 hroom33 hi033 hsz33
                    have KY33 := Aside0.mk hy33
                    clear hy33
                    replace q33 := eq_true q33
                    go_wp2
                    go_loopg [5, 44] kj24 (fun kq v5 v44 w' => ∃ (x5_3 : Int) (x44_3 : Int), v5 = .int .u64 x5_3 ∧ v44 = .int .i64 x44_3 ∧ Aside0 (impl_takeValue.l0 kq y104 x5_3 y115 (y115.length : Int) x44_3 (wrap64 ((wrap64 (rd l0 0)) - 1)) 0 (⟨#[]⟩ : ByteArray) = some (r1, r2, r3, r4)) ∧ Aside0 (kq ≤ kj24) ∧ Aside0 (Kd.V (Kd.int .u8) 5 w' w.heap.size (fun k_ => (P0_ k_ ∨ w.heap.size ≤ k_) ∧ k_ ≠ gb101 ∧ k_ ≠ gb103) (.slice A10 y104.length c10) y104) ∧ Aside0 (Kd.V (Kd.int .u8) 5 w' w.heap.size (fun k_ => (P0_ k_ ∨ w.heap.size ≤ k_) ∧ k_ ≠ gb101 ∧ k_ ≠ gb103) (.slice A10 y115.length c10) y115) ∧ Aside0 (w'.heap[gb101]? = some (.cells #[.int .i64 0, .int .i64 0, .string (⟨#[]⟩ : ByteArray)] 28 (0, 0))) ∧ Aside0 (w'.heap[gb103]? = some (.cells #[.int .i64 (wrap64 ((wrap64 (rd l0 0)) - 1)), .int .i64 0, .string (⟨#[]⟩ : ByteArray)] 28 (0, 0))) ∧ Aside0 (Below w.heap.size w w'))
                    case atStart => exact ⟨(0), (0), (by first | rfl | (simp; done) | (simp [*]; done)), (by first | rfl | (simp; done) | (simp [*]; done)), H', ⟨Nat.le_refl _⟩, ⟨by (with_reducible repeat (first | apply Kd.V_alloc | apply Kd.V_drewN | apply Kd.V_drew)); exact HO_0.out⟩, ⟨by (with_reducible repeat (first | apply Kd.V_alloc | apply Kd.V_drewN | apply Kd.V_drew)); exact HO119.out⟩, ⟨by (with_reducible repeat (first | refine blk_drewN ?_ _ | refine blk_drew ?_ | refine blk_alloc ?_ _)); exact BK101.out⟩, ⟨by (with_reducible repeat (first | refine blk_drewN ?_ _ | refine blk_drew ?_ | refine blk_alloc ?_ _)); exact BK103.out⟩, ⟨by repeat (first | (with_reducible first | exact HB.out | apply below_alloc | apply pw_below_drewN | apply below_drew1 | refine below_set ?_ GE101.out | refine below_set ?_ GE103.out) | exact HB.out)⟩⟩
                    case round =>
                      clear H'
                      try clear c1
                      try clear p1
                      try clear q1
                      try clear hx1
                      try clear qi1
                      try clear c2
                      try clear c2b0
                      try clear c2b1
                      try clear p2
                      try clear q2
                      try clear c3
                      try clear c3b0
                      try clear c3b1
                      try clear q3
                      try clear c6
                      try clear p6
                      try clear c7
                      try clear c10
                      try clear p10
                      try clear q10
                      try clear hx10
                      try clear qi10
                      try clear c11
                      try clear c11b0
                      try clear c11b1
                      try clear c12
                      try clear c14
                      try clear c16
                      try clear c17
                      try clear c17b0
                      try clear c17b1
                      try clear c18
                      try clear c18b0
                      try clear c18b1
                      try clear c19
                      try clear c22
                      try clear q22
                      try clear c26
                      try clear c26b0
                      try clear c26b1
                      try clear c27
                      try clear c29
                      try clear c31
                      try clear c32
                      try clear c32b0
                      try clear c32b1
                      try clear q33
                      try clear hcz13_0
                      try clear hcz13_1
                      try clear hcz13_2
                      try clear hcz15_0
                      try clear hcz15_1
                      try clear hcz15_2
                      try clear hcz20_0
                      try clear hcz20_1
                      try clear hcz20_2
                      try clear hcz23_0
                      try clear hcz23_1
                      try clear hcz23_2
                      try clear hcz24_0
                      try clear hcz24_1
                      try clear hcz24_2
                      try clear hcz28_0
                      try clear hcz28_1
                      try clear hcz28_2
                      try clear hcz30_0
                      try clear hcz30_1
                      try clear hcz30_2
                      try clear hcz8_0
                      try clear hcz8_1
                      try clear hcz8_2
                      try clear hfz13_0
                      try clear hfz13_1
                      try clear hfz13_2
                      try clear hfz15_0
                      try clear hfz15_1
                      try clear hfz15_2
                      try clear hfz20_0
                      try clear hfz20_1
                      try clear hfz20_2
                      try clear hfz23_0
                      try clear hfz23_1
                      try clear hfz23_2
                      try clear hfz24_0
                      try clear hfz24_1
                      try clear hfz24_2
                      try clear hfz28_0
                      try clear hfz28_1
                      try clear hfz28_2
                      try clear hfz30_0
                      try clear hfz30_1
                      try clear hfz30_2
                      try clear hfz8_0
                      try clear hfz8_1
                      try clear hfz8_2
                      try clear hx102_0
                      try clear hx109_0
                      try clear p1
                      try clear p10
                      try clear p102
                      try clear p109
                      try clear p2
                      try clear p6
                      try clear q1
                      try clear q10
                      try clear q102
                      try clear q109
                      try clear q2
                      try clear q22
                      try clear q33
                      obtain ⟨x5_3, x44_3, rfl, rfl, HA, HK3, HO_0, HO_42, BK101, BK103, HB⟩ := hrel
                      cases gk with
                      | zero => exact absurd HA.out (by simp [impl_takeValue.l0])
                      | succ k3 =>
                        have H := HA.out
                        clear HA
                        simp only [impl_takeValue.l0] at H
                        by_cases c34 : x44_3 < (y115.length : Int)
                        · rw [if_pos c34] at H
                          have c34b0 : decide (x44_3 < (y115.length : Int)) = true := decide_eq_true c34
                          clear c34
                          by_cases c35 : 0 ≤ x44_3
                          · rw [if_pos c35] at H
                            have c35b0 : decide (0 ≤ x44_3) = true := decide_eq_true c35
                            clear c35
                            by_cases c36 : x44_3 < (y115.length : Int)
                            · rw [if_pos c36] at H
                              have c36b0 : decide (x44_3 < (y115.length : Int)) = true := decide_eq_true c36
                              clear c36
                              have H' := Aside0.mk H
                              clear H
                              have p120 : 0 ≤ (x44_3 : Int) := of_decide_eq_true (by first | (with_reducible assumption) | assumption)
                              have q120 : x44_3 < (y115.length : Int) := of_decide_eq_true (by first | (with_reducible assumption) | assumption)
                              obtain ⟨ad120, e120, hx120_0⟩ := Kd.at_int (Kd.V_reads' HO_42.out).2.2 x44_3 p120 q120
                              cases e120
                              replace p120 := eq_true p120
                              replace q120 := eq_true q120
                              go_wp2
                              go_roundg k3
                              case measure => have := HJ3.out; have := HJ24.out; have := HK3.out; omega
                              case rel => exact ⟨(Go.bits .or .u64 (IntKind.u64.wrap (x5_3 * 256)) (IntKind.u64.wrap (rd y115 x44_3))), (wrap64 (x44_3 + 1)), (by first | rfl | (simp; done) | (simp [*]; done)), (by first | rfl | (simp; done) | (simp [*]; done)), H', ⟨by have := HJ3.out; have := HJ24.out; have := HK3.out; omega⟩, ⟨by (with_reducible repeat (first | apply Kd.V_alloc | apply Kd.V_drewN | apply Kd.V_drew)); exact HO_0.out⟩, ⟨by (with_reducible repeat (first | apply Kd.V_alloc | apply Kd.V_drewN | apply Kd.V_drew)); exact HO_42.out⟩, ⟨by (with_reducible repeat (first | refine blk_drewN ?_ _ | refine blk_drew ?_ | refine blk_alloc ?_ _)); exact BK101.out⟩, ⟨by (with_reducible repeat (first | refine blk_drewN ?_ _ | refine blk_drew ?_ | refine blk_alloc ?_ _)); exact BK103.out⟩, ⟨by repeat (first | (with_reducible first | exact HB.out | apply below_alloc | apply pw_below_drewN | apply below_drew1 | refine below_set ?_ GE101.out | refine below_set ?_ GE103.out) | exact HB.out)⟩⟩
                            · rw [if_neg c36] at H
                              exact absurd H (by simp)
                          · rw [if_neg c35] at H
                            exact absurd H (by simp)
                        · rw [if_neg c34] at H
                          have c34b0 : decide (x44_3 < (y115.length : Int)) = false := decide_eq_false c34
                          clear c34
                          by_cases c37 : 8 ≤ (y104.length : Int)
                          · rw [if_pos c37] at H
                            have c37b0 := eq_true c37
                            have c37b1 : decide (8 ≤ (y104.length : Int)) = true := decide_eq_true c37
                            clear c37
                            obtain ⟨y121, hy121⟩ : ∃ y_ : List Int, y_ = (y104.drop 8) := ⟨_, rfl⟩
                            replace H : (some ((wrap64 ((wrap64 (rd l0 0)) - 1)), wrap64 ((wrap64 (x5_3)) - 4611686018427387904), (⟨#[]⟩ : ByteArray), y121)) = some (r1, r2, r3, r4) := by first | (rw [hy121]; with_reducible exact H) | (have H2_ := (Option.bind_some _ _).symm.trans H; rw [hy121]; with_reducible exact H2_) | (have H2_ := (Option.bind_some _ _).symm.trans H; with_reducible exact H2_) | with_reducible exact H | (rw [hy121]; exact H) | exact H
                            have Ny121 := Aside0.mk hy121
                            clear hy121
                            simp only [Option.some.injEq, Prod.mk.injEq] at H
                            obtain ⟨rfl, rfl, rfl, rfl⟩ := H
                            have hnb38 := NB103_101.out
                            have hnc38 := NB101_103.out
                            have hcz39_0 : wr.cell? ⟨gb103, 0, none⟩ = some (.int .i64 (wrap64 ((wrap64 (rd l0 0)) - 1))) := (blk_cell BK103.out 0).trans rfl
                            have hcz39_1 : wr.cell? ⟨gb103, 1, none⟩ = some (.int .i64 0) := (blk_cell BK103.out 1).trans rfl
                            have hcz39_2 : wr.cell? ⟨gb103, 2, none⟩ = some (.string (⟨#[]⟩ : ByteArray)) := (blk_cell BK103.out 2).trans rfl
                            have hfz39_0 := blk_frozen BK103.out 0
                            have hfz39_1 := blk_frozen BK103.out 1
                            have hfz39_2 := blk_frozen BK103.out 2
                            go_wp2_with (first | ((with_reducible refine gate_store (t := 3) (p := 57) rfl ?_); refine store_event (t := 3) (p := 57) (v := ?vo_w40) (w1 := (wr.setCell ⟨gb103, 1, none⟩ (.int .i64 (wrap64 ((wrap64 (x5_3)) - 4611686018427387904))))) ?hg ?ho ?hn ?hr ?_; (case ho => rfl); (case hg => rfl); (case hn => rfl); (case hr => first | (go_simp; done) | (go_simp; rfl)); intro w40 hw; have n0_ : Aside0 (Kd.V (Kd.int .u8) 5 w40 w.heap.size (fun k_ => (P0_ k_ ∨ w.heap.size ≤ k_) ∧ k_ ≠ gb101 ∧ k_ ≠ gb103) (.slice A10 y104.length c10) y104) := ⟨(by rw [hw]; exact (by (with_reducible repeat (first | apply Kd.V_alloc | apply Kd.V_drewN | apply Kd.V_drew)); exact Kd.V_mono (Kd.V_far (p := ⟨gb103, 1, none⟩) (Kd.V_mono HO_0.out (fun k_ hk => (⟨hk, hk.2.2⟩ : _ ∧ k_ ≠ gb103))) (fun _ hk => hk.2) (.int .i64 (wrap64 ((wrap64 (x5_3)) - 4611686018427387904)))) (fun _ hk => ⟨hk.1.1, ⟨hk.1.2.1, hk.1.2.2⟩⟩)))⟩; have n1_ : Aside0 (Kd.V (Kd.int .u8) 5 w40 w.heap.size (fun k_ => (P0_ k_ ∨ w.heap.size ≤ k_) ∧ k_ ≠ gb101 ∧ k_ ≠ gb103) (.slice A10 y115.length c10) y115) := ⟨(by rw [hw]; exact (by (with_reducible repeat (first | apply Kd.V_alloc | apply Kd.V_drewN | apply Kd.V_drew)); exact Kd.V_mono (Kd.V_far (p := ⟨gb103, 1, none⟩) (Kd.V_mono HO_42.out (fun k_ hk => (⟨hk, hk.2.2⟩ : _ ∧ k_ ≠ gb103))) (fun _ hk => hk.2) (.int .i64 (wrap64 ((wrap64 (x5_3)) - 4611686018427387904)))) (fun _ hk => ⟨hk.1.1, ⟨hk.1.2.1, hk.1.2.2⟩⟩)))⟩; have n2_ : Aside0 (w40.heap[gb101]? = some (.cells #[.int .i64 0, .int .i64 0, .string (⟨#[]⟩ : ByteArray)] 28 (0, 0))) := ⟨(by rw [hw]; exact (by (with_reducible repeat (first | refine blk_drewN ?_ _ | refine blk_drew ?_ | refine blk_alloc ?_ _)); refine blk_far ?_ NB101_103.out _; (with_reducible repeat (first | refine blk_drewN ?_ _ | refine blk_drew ?_ | refine blk_alloc ?_ _)); exact BK101.out))⟩; have n3_ : Aside0 (w40.heap[gb103]? = some (.cells #[.int .i64 (wrap64 ((wrap64 (rd l0 0)) - 1)), .int .i64 (wrap64 ((wrap64 (x5_3)) - 4611686018427387904)), .string (⟨#[]⟩ : ByteArray)] 28 (0, 0))) := ⟨(by rw [hw]; exact (by (with_reducible repeat (first | refine blk_drewN ?_ _ | refine blk_drew ?_ | refine blk_alloc ?_ _)); refine blk_put (cs := #[.int .i64 (wrap64 ((wrap64 (rd l0 0)) - 1)), .int .i64 0, .string (⟨#[]⟩ : ByteArray)]) ?_ 1 _ rfl; (with_reducible repeat (first | refine blk_drewN ?_ _ | refine blk_drew ?_ | refine blk_alloc ?_ _)); exact BK103.out))⟩; have n4_ : Aside0 (Below w.heap.size w w40) := ⟨(by rw [hw]; exact (by repeat (first | (with_reducible first | exact HB.out | apply below_alloc | apply pw_below_drewN | apply below_drew1 | refine below_set ?_ GE101.out | refine below_set ?_ GE103.out) | exact HB.out)))⟩; clear hw; clear HO_0; clear HO_42; clear BK101; clear BK103; clear HB; have HO_0 := n0_; have HO_42 := n1_; have BK101 := n2_; have BK103 := n3_; have HB := n4_; clear n0_ n1_ n2_ n3_ n4_; have q41 : (8 : Int) ≤ ((y104.length : Int) : Int) := of_decide_eq_true (by first | (with_reducible assumption) | assumption); obtain ⟨i041, hi041, _, hsz41, _⟩ := info_parts info5; have hroom41 : y104.length ≤ c10 := (Kd.V_reads' HO_0.out).2.1; have hC41 : Kd.F (Kd.int .u8) _ _ A10 y104.length y104 := (Kd.V_at (base := w.heap.size) HO_0.out).2.2; have hcut41 := cut_from (P := Try.prog) 50 5 .i64 Try.underlying50 hi041 1 hsz41 A10 y104.length c10 8 (by omega) q41; have hr41 := Kd.F_cut (m := (8 : Int).toNat) (c := c10) hC41 (by omega) hroom41; obtain ⟨A41, hA41⟩ : ∃ A1, A1 = (if c10 = (8 : Int).toNat then A10 else (A10 : Option Addr).map (·.add ((8 : Int).toNat * 1))) := ⟨_, rfl⟩; obtain ⟨c41, hc41⟩ : ∃ c1, c1 = c10 - (8 : Int).toNat := ⟨_, rfl⟩; have hy41 : y121.length = y104.length - (8 : Int).toNat := (by rw [Ny121.out, List.length_drop] <;> omega); rw [show (y104).drop (8 : Int).toNat = y121 from Ny121.out.symm] at hr41; replace hr41 : Kd.F (Kd.int .u8) _ _ A41 y121.length y121 := (by rw [hA41]; exact hr41); rw [← hy41, ← hA41, ← hc41] at hcut41; have HO125 := Aside0.mk (show Kd.V (Kd.int .u8) 5 _ w.heap.size _ (.slice A41 y121.length c41) y121 from Kd.V_mk (by rw [hy41, hc41]; exact Nat.sub_le_sub_right hroom41 _) hr41); have HC125 := Aside0.mk (show y121.length ≤ c41 from by rw [hy41, hc41]; exact Nat.sub_le_sub_right hroom41 _); clear hr41 hC41 hroom41 hi041 hsz41 hc41; have KY41 := Aside0.mk hy41; have KA41 := Aside0.mk hA41; clear hy41 hA41; replace q41 := eq_true q41; have hcz42_0 : w40.cell? ⟨gb103, 0, none⟩ = some (.int .i64 (wrap64 ((wrap64 (rd l0 0)) - 1))) := (blk_cell BK103.out 0).trans rfl; have hcz42_1 : w40.cell? ⟨gb103, 1, none⟩ = some (.int .i64 (wrap64 ((wrap64 (x5_3)) - 4611686018427387904))) := (blk_cell BK103.out 1).trans rfl; have hcz42_2 : w40.cell? ⟨gb103, 2, none⟩ = some (.string (⟨#[]⟩ : ByteArray)) := (blk_cell BK103.out 2).trans rfl; have hfz42_0 := blk_frozen BK103.out 0; have hfz42_1 := blk_frozen BK103.out 1; have hfz42_2 := blk_frozen BK103.out 2; have hcz43_0 : w40.cell? ⟨gb101, 0, none⟩ = some (.int .i64 0) := (blk_cell BK101.out 0).trans rfl; have hcz43_1 : w40.cell? ⟨gb101, 1, none⟩ = some (.int .i64 0) := (blk_cell BK101.out 1).trans rfl; have hcz43_2 : w40.cell? ⟨gb101, 2, none⟩ = some (.string (⟨#[]⟩ : ByteArray)) := (blk_cell BK101.out 2).trans rfl; have hfz43_0 := blk_frozen BK101.out 0; have hfz43_1 := blk_frozen BK101.out 1; have hfz43_2 := blk_frozen BK101.out 2))
                            refine bodyPost_ret (results_ct rfl _ _ gb101 28 #[.int .i64 (wrap64 ((wrap64 (rd l0 0)) - 1)), .int .i64 (wrap64 ((wrap64 (x5_3)) - 4611686018427387904)), .string (⟨#[]⟩ : ByteArray)] (0, 0) _ rfl (by (with_reducible repeat (first | refine blk_drewN ?_ _ | refine blk_drew ?_ | refine blk_alloc ?_ _)); refine blk_put (cs := #[.int .i64 (wrap64 ((wrap64 (rd l0 0)) - 1)), .int .i64 (wrap64 ((wrap64 (x5_3)) - 4611686018427387904)), .string (⟨#[]⟩ : ByteArray)]) ?_ 2 _ rfl; (with_reducible repeat (first | refine blk_drewN ?_ _ | refine blk_drew ?_ | refine blk_alloc ?_ _)); refine blk_put (cs := #[.int .i64 (wrap64 ((wrap64 (rd l0 0)) - 1)), .int .i64 0, .string (⟨#[]⟩ : ByteArray)]) ?_ 1 _ rfl; (with_reducible repeat (first | refine blk_drewN ?_ _ | refine blk_drew ?_ | refine blk_alloc ?_ _)); refine blk_put (cs := #[.int .i64 0, .int .i64 0, .string (⟨#[]⟩ : ByteArray)]) ?_ 0 _ rfl; (with_reducible repeat (first | refine blk_drewN ?_ _ | refine blk_drew ?_ | refine blk_alloc ?_ _)); exact BK101.out) Try.underlying28 rfl (by kernel_rfl)) rfl ?_
                            exact ⟨_, by first | rfl | (simp [errW_none, errW_some] <;> rfl) | (simp [*, errW_none, errW_some] <;> rfl), by (with_reducible repeat (first | apply Kd.V_alloc | apply Kd.V_drewN | apply Kd.V_drew)); exact Kd.V_mono (Kd.V_far (p := ⟨gb101, 2, none⟩) (Kd.V_far (p := ⟨gb101, 1, none⟩) (Kd.V_far (p := ⟨gb101, 0, none⟩) (Kd.V_mono HO125.out (fun k_ hk => (⟨hk, hk.2.1⟩ : _ ∧ k_ ≠ gb101))) (fun _ hk => hk.2) (.int .i64 (wrap64 ((wrap64 (rd l0 0)) - 1)))) (fun _ hk => hk.2) (.int .i64 (wrap64 ((wrap64 (x5_3)) - 4611686018427387904)))) (fun _ hk => hk.2) (.string (⟨#[]⟩ : ByteArray))) (fun _ hk => hk.1.1), by repeat (first | (with_reducible first | exact HB.out | apply below_alloc | apply pw_below_drewN | apply below_drew1 | refine below_set ?_ GE101.out | refine below_set ?_ GE103.out) | exact HB.out)⟩
                          · rw [if_neg c37] at H
                            exact absurd H (by simp)
                  · rw [if_neg c32] at H
                    exact absurd H (by simp)
                · replace c31 := Bool.eq_false_iff.mpr c31
                  subst c31
                  have H1 : (if (wrap64 ((wrap64 (rd l0 0)) - 1)) = 3 then ((impl_takeText.f kj24 y104).bind fun bt126 => (some ((wrap64 ((wrap64 (rd l0 0)) - 1)), 0, bt126.1, bt126.2))) else (some ((wrap64 ((wrap64 (rd l0 0)) - 1)), 0, (⟨#[]⟩ : ByteArray), y104))) = some (r1, r2, r3, r4) := by rw [if_neg (show ¬ (false = true) by decide)] at H; exact H
                  clear H
                  have H := H1
                  clear H1
                  by_cases c44 : (wrap64 ((wrap64 (rd l0 0)) - 1)) = 3
                  · rw [if_pos c44] at H
                    have c44b0 : ((wrap64 ((wrap64 (rd l0 0)) - 1)) == 3) = true := beq_iff_eq.mpr c44
                    have c44b1 : ((wrap64 ((wrap64 (rd l0 0)) - 1)) != 3) = false := bne_eq_false_iff_eq.mpr c44
                    clear c44
                    replace H := Option.bind_eq_some_iff.mp H
                    obtain ⟨⟨t126, t127⟩, A450, H⟩ := H
                    replace H : (some ((wrap64 ((wrap64 (rd l0 0)) - 1)), 0, t126, t127)) = some (r1, r2, r3, r4) := H
                    have A45 := Aside0.mk A450
                    clear A450
                    simp only [Option.some.injEq, Prod.mk.injEq] at H
                    obtain ⟨rfl, rfl, rfl, rfl⟩ := H
                    have hnb46 := NB103_101.out
                    have hnc46 := NB101_103.out
                    have hcz47_0 : wc.cell? ⟨gb103, 0, none⟩ = some (.int .i64 (wrap64 ((wrap64 (rd l0 0)) - 1))) := (blk_cell BK103.out 0).trans rfl
                    have hcz47_1 : wc.cell? ⟨gb103, 1, none⟩ = some (.int .i64 0) := (blk_cell BK103.out 1).trans rfl
                    have hcz47_2 : wc.cell? ⟨gb103, 2, none⟩ = some (.string (⟨#[]⟩ : ByteArray)) := (blk_cell BK103.out 2).trans rfl
                    have hfz47_0 := blk_frozen BK103.out 0
                    have hfz47_1 := blk_frozen BK103.out 1
                    have hfz47_2 := blk_frozen BK103.out 2
                    go_wp2_with (first | ((with_reducible refine gate_callee (f := 74) rfl ?_); refine goesL_ (some 66) rfl rfl Try.func74 (by kernel_rfl) rfl #[.slice A10 y104.length c10] rfl (by (try simp only [List.map_toArray, List.map_cons, List.map_nil]); first | done | rfl | (simp only [List.length_drop, List.length_take]; rfl)) ?_; (with_reducible refine (impl_takeText.calls kj24 (fun k_ => ((P0_ k_ ∨ w.heap.size ≤ k_) ∧ (k_ ≠ gb101 ∧ k_ ≠ gb103))) _ _ y104 t126 t127 _ ?side1 A45.out).mono ?_); (case side1 => exact HO_0.out); rintro e w48 ⟨v128, rfl, ho0, hb⟩; refine ⟨_, rfl, ?_⟩; have n0_ := Aside0.mk (Kd.V_below (by (with_reducible repeat (first | apply Kd.V_alloc | apply Kd.V_drewN | apply Kd.V_drew)); exact HO_0.out) hb); have n1_ := Aside0.mk (Kd.V_lower (Kd.V_mono (ok' := fun k_ => (P0_ k_ ∨ w.heap.size ≤ k_) ∧ k_ ≠ gb101 ∧ k_ ≠ gb103) ho0 (fun k_ hk_ => ⟨Or.elim hk_ (fun hs_ => hs_.1) (fun hn_ => (.inr (Nat.le_trans (below_size (by repeat (first | (with_reducible first | exact HB.out | apply below_alloc | apply pw_below_drewN | apply below_drew1 | refine below_set ?_ GE101.out | refine below_set ?_ GE103.out) | exact HB.out))) hn_))), Or.elim hk_ (fun hs_ => hs_.2.1) (fun hn_ => (Kd.freshB (g := gb101) (o := .cells #[.int .i64 0, .int .i64 0, .string (⟨#[]⟩ : ByteArray)] 28 (0, 0)) (by (with_reducible repeat (first | refine blk_drewN ?_ _ | refine blk_drew ?_ | refine blk_alloc ?_ _)); exact BK101.out) k_ hn_)), Or.elim hk_ (fun hs_ => hs_.2.2) (fun hn_ => (Kd.freshB (g := gb103) (o := .cells #[.int .i64 (wrap64 ((wrap64 (rd l0 0)) - 1)), .int .i64 0, .string (⟨#[]⟩ : ByteArray)] 28 (0, 0)) (by (with_reducible repeat (first | refine blk_drewN ?_ _ | refine blk_drew ?_ | refine blk_alloc ?_ _)); exact BK103.out) k_ hn_))⟩)) (below_size (by repeat (first | (with_reducible first | exact HB.out | apply below_alloc | apply pw_below_drewN | apply below_drew1 | refine below_set ?_ GE101.out | refine below_set ?_ GE103.out) | exact HB.out)))); have n2_ := Aside0.mk (blk_below (g := gb101) (o := .cells #[.int .i64 0, .int .i64 0, .string (⟨#[]⟩ : ByteArray)] 28 (0, 0)) (by (with_reducible repeat (first | refine blk_drewN ?_ _ | refine blk_drew ?_ | refine blk_alloc ?_ _)); exact BK101.out) hb); have n3_ := Aside0.mk (blk_below (g := gb103) (o := .cells #[.int .i64 (wrap64 ((wrap64 (rd l0 0)) - 1)), .int .i64 0, .string (⟨#[]⟩ : ByteArray)] 28 (0, 0)) (by (with_reducible repeat (first | refine blk_drewN ?_ _ | refine blk_drew ?_ | refine blk_alloc ?_ _)); exact BK103.out) hb); have n4_ := Aside0.mk (below_step (by repeat (first | (with_reducible first | exact HB.out | apply below_alloc | apply pw_below_drewN | apply below_drew1 | refine below_set ?_ GE101.out | refine below_set ?_ GE103.out) | exact HB.out)) hb); clear HO_0; clear BK101; clear BK103; clear HB; have HO_0 := n0_; have HO129 := n1_; have BK101 := n2_; have BK103 := n3_; have HB := n4_; clear n0_ n1_ n2_ n3_ n4_; (try clear hb); (try clear hb2); (try clear hk); (try clear hi); (try clear ho0); have hcz49_0 : w48.cell? ⟨gb103, 0, none⟩ = some (.int .i64 (wrap64 ((wrap64 (rd l0 0)) - 1))) := (blk_cell BK103.out 0).trans rfl; have hcz49_1 : w48.cell? ⟨gb103, 1, none⟩ = some (.int .i64 0) := (blk_cell BK103.out 1).trans rfl; have hcz49_2 : w48.cell? ⟨gb103, 2, none⟩ = some (.string (⟨#[]⟩ : ByteArray)) := (blk_cell BK103.out 2).trans rfl; have hfz49_0 := blk_frozen BK103.out 0; have hfz49_1 := blk_frozen BK103.out 1; have hfz49_2 := blk_frozen BK103.out 2; have hcz50_0 : w48.cell? ⟨gb101, 0, none⟩ = some (.int .i64 0) := (blk_cell BK101.out 0).trans rfl; have hcz50_1 : w48.cell? ⟨gb101, 1, none⟩ = some (.int .i64 0) := (blk_cell BK101.out 1).trans rfl; have hcz50_2 : w48.cell? ⟨gb101, 2, none⟩ = some (.string (⟨#[]⟩ : ByteArray)) := (blk_cell BK101.out 2).trans rfl; have hfz50_0 := blk_frozen BK101.out 0; have hfz50_1 := blk_frozen BK101.out 1; have hfz50_2 := blk_frozen BK101.out 2))
                    refine bodyPost_ret (results_ct rfl _ _ gb101 28 #[.int .i64 (wrap64 ((wrap64 (rd l0 0)) - 1)), .int .i64 0, .string t126] (0, 0) _ rfl (by (with_reducible repeat (first | refine blk_drewN ?_ _ | refine blk_drew ?_ | refine blk_alloc ?_ _)); refine blk_put (cs := #[.int .i64 (wrap64 ((wrap64 (rd l0 0)) - 1)), .int .i64 0, .string (⟨#[]⟩ : ByteArray)]) ?_ 2 _ rfl; (with_reducible repeat (first | refine blk_drewN ?_ _ | refine blk_drew ?_ | refine blk_alloc ?_ _)); refine blk_put (cs := #[.int .i64 (wrap64 ((wrap64 (rd l0 0)) - 1)), .int .i64 0, .string (⟨#[]⟩ : ByteArray)]) ?_ 1 _ rfl; (with_reducible repeat (first | refine blk_drewN ?_ _ | refine blk_drew ?_ | refine blk_alloc ?_ _)); refine blk_put (cs := #[.int .i64 0, .int .i64 0, .string (⟨#[]⟩ : ByteArray)]) ?_ 0 _ rfl; (with_reducible repeat (first | refine blk_drewN ?_ _ | refine blk_drew ?_ | refine blk_alloc ?_ _)); refine blk_far ?_ NB101_103.out _; (with_reducible repeat (first | refine blk_drewN ?_ _ | refine blk_drew ?_ | refine blk_alloc ?_ _)); exact BK101.out) Try.underlying28 rfl (by kernel_rfl)) rfl ?_
                    exact ⟨_, by first | rfl | (simp [errW_none, errW_some] <;> rfl) | (simp [*, errW_none, errW_some] <;> rfl), by (with_reducible repeat (first | apply Kd.V_alloc | apply Kd.V_drewN | apply Kd.V_drew)); exact Kd.V_mono (Kd.V_far (p := ⟨gb101, 2, none⟩) (Kd.V_far (p := ⟨gb101, 1, none⟩) (Kd.V_far (p := ⟨gb101, 0, none⟩) (Kd.V_far (p := ⟨gb103, 2, none⟩) (Kd.V_mono (Kd.V_mono HO129.out (fun k_ hk => (⟨hk, hk.2.2⟩ : _ ∧ k_ ≠ gb103))) (fun k_ hk => (⟨hk, hk.1.2.1⟩ : _ ∧ k_ ≠ gb101))) (fun _ hk => hk.1.2) (.string t126)) (fun _ hk => hk.2) (.int .i64 (wrap64 ((wrap64 (rd l0 0)) - 1)))) (fun _ hk => hk.2) (.int .i64 0)) (fun _ hk => hk.2) (.string t126)) (fun _ hk => hk.1.1.1), by repeat (first | (with_reducible first | exact HB.out | apply below_alloc | apply pw_below_drewN | apply below_drew1 | refine below_set ?_ GE101.out | refine below_set ?_ GE103.out) | exact HB.out)⟩
                  · rw [if_neg c44] at H
                    have c44b0 : ((wrap64 ((wrap64 (rd l0 0)) - 1)) == 3) = false := beq_eq_false_iff_ne.mpr c44
                    have c44b1 : ((wrap64 ((wrap64 (rd l0 0)) - 1)) != 3) = true := bne_iff_ne.mpr c44
                    simp only [Option.some.injEq, Prod.mk.injEq] at H
                    obtain ⟨rfl, rfl, rfl, rfl⟩ := H
                    have hnb51 := NB103_101.out
                    have hnc51 := NB101_103.out
                    have hcz52_0 : wc.cell? ⟨gb103, 0, none⟩ = some (.int .i64 (wrap64 ((wrap64 (rd l0 0)) - 1))) := (blk_cell BK103.out 0).trans rfl
                    have hcz52_1 : wc.cell? ⟨gb103, 1, none⟩ = some (.int .i64 0) := (blk_cell BK103.out 1).trans rfl
                    have hcz52_2 : wc.cell? ⟨gb103, 2, none⟩ = some (.string (⟨#[]⟩ : ByteArray)) := (blk_cell BK103.out 2).trans rfl
                    have hfz52_0 := blk_frozen BK103.out 0
                    have hfz52_1 := blk_frozen BK103.out 1
                    have hfz52_2 := blk_frozen BK103.out 2
                    have hcz53_0 : wc.cell? ⟨gb101, 0, none⟩ = some (.int .i64 0) := (blk_cell BK101.out 0).trans rfl
                    have hcz53_1 : wc.cell? ⟨gb101, 1, none⟩ = some (.int .i64 0) := (blk_cell BK101.out 1).trans rfl
                    have hcz53_2 : wc.cell? ⟨gb101, 2, none⟩ = some (.string (⟨#[]⟩ : ByteArray)) := (blk_cell BK101.out 2).trans rfl
                    have hfz53_0 := blk_frozen BK101.out 0
                    have hfz53_1 := blk_frozen BK101.out 1
                    have hfz53_2 := blk_frozen BK101.out 2
                    go_wp2
                    refine bodyPost_ret (results_ct rfl _ _ gb101 28 #[.int .i64 (wrap64 ((wrap64 (rd l0 0)) - 1)), .int .i64 0, .string (⟨#[]⟩ : ByteArray)] (0, 0) _ rfl (by (with_reducible repeat (first | refine blk_drewN ?_ _ | refine blk_drew ?_ | refine blk_alloc ?_ _)); refine blk_put (cs := #[.int .i64 (wrap64 ((wrap64 (rd l0 0)) - 1)), .int .i64 0, .string (⟨#[]⟩ : ByteArray)]) ?_ 2 _ rfl; (with_reducible repeat (first | refine blk_drewN ?_ _ | refine blk_drew ?_ | refine blk_alloc ?_ _)); refine blk_put (cs := #[.int .i64 (wrap64 ((wrap64 (rd l0 0)) - 1)), .int .i64 0, .string (⟨#[]⟩ : ByteArray)]) ?_ 1 _ rfl; (with_reducible repeat (first | refine blk_drewN ?_ _ | refine blk_drew ?_ | refine blk_alloc ?_ _)); refine blk_put (cs := #[.int .i64 0, .int .i64 0, .string (⟨#[]⟩ : ByteArray)]) ?_ 0 _ rfl; (with_reducible repeat (first | refine blk_drewN ?_ _ | refine blk_drew ?_ | refine blk_alloc ?_ _)); exact BK101.out) Try.underlying28 rfl (by kernel_rfl)) rfl ?_
                    exact ⟨_, by first | rfl | (simp [errW_none, errW_some] <;> rfl) | (simp [*, errW_none, errW_some] <;> rfl), by (with_reducible repeat (first | apply Kd.V_alloc | apply Kd.V_drewN | apply Kd.V_drew)); exact Kd.V_mono (Kd.V_far (p := ⟨gb101, 2, none⟩) (Kd.V_far (p := ⟨gb101, 1, none⟩) (Kd.V_far (p := ⟨gb101, 0, none⟩) (Kd.V_mono HO_0.out (fun k_ hk => (⟨hk, hk.2.1⟩ : _ ∧ k_ ≠ gb101))) (fun _ hk => hk.2) (.int .i64 (wrap64 ((wrap64 (rd l0 0)) - 1)))) (fun _ hk => hk.2) (.int .i64 0)) (fun _ hk => hk.2) (.string (⟨#[]⟩ : ByteArray))) (fun _ hk => hk.1.1), by repeat (first | (with_reducible first | exact HB.out | apply below_alloc | apply pw_below_drewN | apply below_drew1 | refine below_set ?_ GE101.out | refine below_set ?_ GE103.out) | exact HB.out)⟩
    · rw [if_neg c3] at H
      exact absurd H (by simp)
  · rw [if_neg c2] at H
    exact absurd H (by simp)
end Go.Proofs.Ytgnmdhkkbkoghaa.P
namespace Go.Proofs.Ytgnmdhkkbkoghaa.P
open Go.RowKit Go.Proofs.YtgnmdhkkbkoghaaW.PrintWords Go.Proofs.YtgnmdhkkbkoghaaW.PrintLast Go.Proofs.YtgnmdhkkbkoghaaW.PrintMore
attribute [local go_sem] max2_int min2_int max_two min_two max_three min_three max_four min_four   -- for this text's walks alone
set_option linter.unusedVariables false
set_option linter.unusedSimpArgs false
def bytes_Equal.f (l0 : List Int) (l1 : List Int) : Option (Bool) := some ((strOfNums l0).toList == (strOfNums l1).toList)
set_option maxHeartbeats 8000000 in
set_option maxRecDepth 100000 in
theorem bytes_Equal.calls (A0 : Option Addr) (c0 : Nat) (l0 : List Int) (A1 : Option Addr) (c1 : Nat) (l1 : List Int) (r : Bool) (w : World) (hr0 : Kd.C (Kd.int .u8) w A0 l0.length l0) (hc0 : l0.length ≤ c0) (hr1 : Kd.C (Kd.int .u8) w A1 l1.length l1) (hc1 : l1.length ≤ c1) (h : bytes_Equal.f l0 l1 = some r) :
    Calls Try.prog 67 #[.slice A0 l0.length c0, .slice A1 l1.length c1] w fun e w' => e = .returned (.bool r) ∧ Drawn0 w w' := by
  have HR0 := Aside0.mk hr0
  have HC0 := Aside0.mk hc0
  clear hr0 hc0
  have HR1 := Aside0.mk hr1
  have HC1 := Aside0.mk hc1
  clear hr1 hc1
  have H : (some ((strOfNums l0).toList == (strOfNums l1).toList)) = some r := h
  clear h
  obtain rfl := Option.some.inj H
  have hcv3 := Kd.C_string (P := Try.prog) (A := A0) (c := c0) Try.underlying50 Try.underlying5 Try.underlying9 HR0.out
  have hcv4 := Kd.C_string (P := Try.prog) (A := A1) (c := c1) Try.underlying50 Try.underlying5 Try.underlying9 HR1.out
  go_enter Try.func67, Try.ntmps67
  go_wp2
  go_ret
  exact ⟨by first | rfl | (simp; done) | (simp [*]; done), by repeat (first | exact Drawn0.refl _ | apply Drawn0.step)⟩
end Go.Proofs.Ytgnmdhkkbkoghaa.P
namespace Go.Proofs.Ytgnmdhkkbkoghaa.P
open Go.RowKit Go.Proofs.YtgnmdhkkbkoghaaW.PrintWords Go.Proofs.YtgnmdhkkbkoghaaW.PrintLast Go.Proofs.YtgnmdhkkbkoghaaW.PrintMore
attribute [local go_sem] max2_int min2_int max_two min_two max_three min_three max_four min_four   -- for this text's walks alone
set_option linter.unusedVariables false
set_option linter.unusedSimpArgs false
mutual
def impl_TupleOf.j1 : Nat → List Int → List (S28) → Option ((List (S28)) × Bool)
  | 0, _, _ => none
  | k + 1, x0, x4 => (impl_TupleOk.f k x4).bind fun t114 => (if t114 = true then ((impl_TupleBytes.f k x4).bind fun t115 => ((bytes_Equal.f t115 x0).bind fun t118 => (if t118 = true then (some (x4, true)) else (some (([] : List (S28)), false))))) else (some (([] : List (S28)), false)))
def impl_TupleOf.l0 : Nat → List Int → List (S28) → List Int → Option ((List (S28)) × Bool)
  | 0, _, _, _ => none
  | k + 1, x0, x4, x5 => if (x5.length : Int) > 0 then (if (x4.length : Int) ≤ 4 then ((impl_takeValue.f k x5).bind fun bt104 => (if x4.length < 4398046511104 then (impl_TupleOf.l0 k x0 (x4 ++ [(⟨bt104.1, bt104.2.1, bt104.2.2.1⟩ : S28)]) bt104.2.2.2) else (none))) else (impl_TupleOf.j1 k x0 x4)) else (impl_TupleOf.j1 k x0 x4)
end
def impl_TupleOf.f (k : Nat) (l0 : List Int) : Option ((List (S28)) × Bool) := impl_TupleOf.l0 k l0 (([] : List (S28))) l0
set_option maxHeartbeats 8000000 in
set_option maxRecDepth 100000 in
theorem impl_TupleOf.calls (k : Nat) (P0_ : Nat → Prop) (A0 : Option Addr) (c0 : Nat) (l0 : List Int) (r1 : List (S28)) (r2 : Bool) (w : World) (hs0 : Kd.V (Kd.int .u8) 5 w w.heap.size (fun k_ => P0_ k_) (.slice A0 l0.length c0) l0) (h : impl_TupleOf.f k l0 = some (r1, r2)) :
    Calls Try.prog 52 #[.slice A0 l0.length c0] w fun e w' => ∃ v0_ : Value, e = .returned (.tuple #[v0_, .bool r2]) ∧ Kd.R k28 28 w' w.heap.size (fun k_ => (w.heap.size ≤ k_)) v0_ r1 ∧ Below w.heap.size w w' := by
  have hu28 := Try.underlying28
  have HO0 := Aside0.mk (show Kd.V (Kd.int .u8) 5 w w.heap.size (fun k_ => (P0_ k_ ∨ w.heap.size ≤ k_)) (.slice A0 l0.length c0) l0 from Kd.V_mono hs0 (fun k_ hk => .inl hk))
  have HB := Aside0.mk (Below.refl w.heap.size w)
  have H : (impl_TupleOf.l0 k l0 (([] : List (S28))) l0) = some (r1, r2) := h
  clear h
  obtain ⟨y101, hy101⟩ : ∃ y_ : List (S28), y_ = (([] : List (S28))) := ⟨_, rfl⟩
  replace H : (impl_TupleOf.l0 k l0 y101 l0) = some (r1, r2) := by first | (rw [hy101]; with_reducible exact H) | (have H2_ := (Option.bind_some _ _).symm.trans H; rw [hy101]; with_reducible exact H2_) | (have H2_ := (Option.bind_some _ _).symm.trans H; with_reducible exact H2_) | with_reducible exact H | (rw [hy101]; exact H) | exact H
  have Ny101 := Aside0.mk hy101
  clear hy101
  have HC2 := Aside0.mk H
  clear H
  go_enter Try.func52, Try.ntmps52
  go_upto_block 0 with (first | ((with_reducible refine gate_dst (N := 8) rfl ?_); (try (refine gate_guard (by rfl) ?_; dsimp only)); refine Kd.R_lit k28 _ 28 ?hg (N := 8) ?hd (xs := ([] : List (S28))) (inner := []) (ok := fun _ => True) (okp := fun _ => True) ?hr ?hp (fun _ hk => hk) trivial (Below.refl _ _) (Nat.le_refl _) (by simp) ?_; (case hd => rfl); (case hg => rfl); (case hr => first | (go_simp; done) | (go_simp; rfl)); (case hp => exact (Reps.none _ _)); intro v102 w3 ho4 hb hg_ hnew_; clear hg_ hnew_; (first | rw [← Ny101.out] at ho4 | (simp only [Int.reduceToNat] at ho4; rw [← Ny101.out] at ho4)); have n0_ := Aside0.mk (Kd.V_elder' (by (with_reducible repeat (first | apply Kd.V_alloc | apply Kd.V_drewN | apply Kd.V_drew)); exact HO0.out) (Kd.R_base ho4) hb); have n1_ := Aside0.mk (Kd.R_lower (Kd.R_newM (M := fun k_ => (w.heap.size ≤ k_)) ho4 (below_size (by repeat (first | (with_reducible first | exact HB.out | apply below_alloc | apply pw_below_drewN | apply below_drew1) | exact HB.out))) (fun k_ h_ => h_)) (below_size (by repeat (first | (with_reducible first | exact HB.out | apply below_alloc | apply pw_below_drewN | apply below_drew1) | exact HB.out)))); have n2_ := Aside0.mk (below_step (by repeat (first | (with_reducible first | exact HB.out | apply below_alloc | apply pw_below_drewN | apply below_drew1) | exact HB.out)) hb); clear HO0; clear HB; have HO0 := n0_; have HO103 := n1_; have HB := n2_; clear n0_ n1_ n2_; clear hb ho4))
  (try simp only [Act.put, List.setIfInBounds_toArray, List.set_cons_zero, List.set_cons_succ])
  go_cut [4] (fun v4 wc => ∃ (kq : Nat) (x4_1 : List (S28)), Aside0 (impl_TupleOf.j1 kq l0 x4_1 = some (r1, r2)) ∧ Aside0 (kq ≤ k) ∧ Aside0 (Kd.V (Kd.int .u8) 5 wc w.heap.size (fun k_ => (P0_ k_ ∨ w.heap.size ≤ k_) ∧ some k_ ≠ (v4 : Value).ownBlock) (.slice A0 l0.length c0) l0) ∧ Aside0 (Kd.R k28 28 wc w.heap.size (fun k_ => (w.heap.size ≤ k_)) v4 x4_1) ∧ Aside0 (Below w.heap.size w wc))
  case first =>
    have H := HC2.out
    clear HC2
    have H' := Aside0.mk H
    clear H
    go_wp2
    go_loopg [4, 5] k (fun kq v4 v5 w' => ∃ (x4_1 : List (S28)) (x5_1 : List Int), Aside0 (impl_TupleOf.l0 kq l0 x4_1 x5_1 = some (r1, r2)) ∧ Aside0 (kq ≤ k) ∧ Aside0 (Kd.V (Kd.int .u8) 5 w' w.heap.size (fun k_ => (P0_ k_ ∨ w.heap.size ≤ k_) ∧ some k_ ≠ (v4 : Value).ownBlock) (.slice A0 l0.length c0) l0) ∧ Aside0 (Kd.R k28 28 w' w.heap.size (fun k_ => (w.heap.size ≤ k_)) v4 x4_1) ∧ Aside0 (Kd.V (Kd.int .u8) 5 w' w.heap.size (fun k_ => (P0_ k_ ∨ w.heap.size ≤ k_) ∧ some k_ ≠ (v4 : Value).ownBlock) v5 x5_1) ∧ Aside0 (Below w.heap.size w w'))
    case atStart => exact ⟨(y101), (l0), H', ⟨Nat.le_refl _⟩, ⟨by (with_reducible repeat (first | apply Kd.V_alloc | apply Kd.V_drewN | apply Kd.V_drew)); exact HO0.out⟩, ⟨by (with_reducible repeat (first | apply Kd.R_alloc | apply Kd.R_drewN | apply Kd.R_drew)); exact Kd.R_mono HO103.out (fun _ hk => hk.1)⟩, ⟨by (with_reducible repeat (first | apply Kd.V_alloc | apply Kd.V_drewN | apply Kd.V_drew)); exact HO0.out⟩, ⟨by repeat (first | (with_reducible first | exact HB.out | apply below_alloc | apply pw_below_drewN | apply below_drew1) | exact HB.out)⟩⟩
    case round =>
      clear H'
      try clear p2
      obtain ⟨x4_1, x5_1, HA, HK1, HO_0, HO_4, HO_5, HB⟩ := hrel
      cases gk with
      | zero => exact absurd HA.out (by simp [impl_TupleOf.l0])
      | succ k1 =>
        have H := HA.out
        clear HA
        simp only [impl_TupleOf.l0] at H
        by_cases c5 : (x5_1.length : Int) > 0
        · rw [if_pos c5] at H
          have c5b0 : decide (0 < (x5_1.length : Int)) = true := decide_eq_true c5
          have c5b1 : decide (0 < x5_1.length) = true := decide_eq_true (by omega)
          clear c5
          (first | rw [c5b0] | (simp only [i64_w, i32_w]; rw [c5b0]) | skip)
          by_cases c6 : (x4_1.length : Int) ≤ 4
          · rw [if_pos c6] at H
            have c6b0 : decide ((x4_1.length : Int) ≤ 4) = true := decide_eq_true c6
            have c6b1 : decide (x4_1.length ≤ 4) = true := decide_eq_true (by omega)
            clear c6
            replace H := Option.bind_eq_some_iff.mp H
            obtain ⟨⟨t104, t105, t106, t107⟩, A70, H⟩ := H
            replace H : (if x4_1.length < 4398046511104 then (impl_TupleOf.l0 k1 l0 (x4_1 ++ [(⟨t104, t105, t106⟩ : S28)]) t107) else (none)) = some (r1, r2) := H
            have A7 := Aside0.mk A70
            clear A70
            by_cases c8 : x4_1.length < 4398046511104
            · rw [if_pos c8] at H
              have LMc8 := Aside0.mk c8
              clear c8
              obtain ⟨y111, hy111⟩ : ∃ y_ : List (S28), y_ = (x4_1 ++ [(⟨t104, t105, t106⟩ : S28)]) := ⟨_, rfl⟩
              replace H : (impl_TupleOf.l0 k1 l0 y111 t107) = some (r1, r2) := by first | (rw [hy111]; with_reducible exact H) | (have H2_ := (Option.bind_some _ _).symm.trans H; rw [hy111]; with_reducible exact H2_) | (have H2_ := (Option.bind_some _ _).symm.trans H; with_reducible exact H2_) | with_reducible exact H | (rw [hy111]; exact H) | exact H
              have Ny111 := Aside0.mk hy111
              clear hy111
              have H' := Aside0.mk H
              clear H
              obtain ⟨Ao9, co9, eo9⟩ := Kd.V_slice HO_5.out
              subst eo9
              obtain ⟨Ao10, co10, eo10⟩ := Kd.R_slice HO_4.out
              subst eo10
              go_wp2_with (first | ((with_reducible refine gate_callee (f := 66) rfl ?_); refine goesL_ (some 20) rfl rfl Try.func66 (by kernel_rfl) rfl #[.slice Ao9 x5_1.length co9] rfl (by (try simp only [List.map_toArray, List.map_cons, List.map_nil]); first | done | rfl | (simp only [List.length_drop, List.length_take]; rfl)) ?_; (with_reducible refine (impl_takeValue.calls k1 (fun k_ => ((P0_ k_ ∨ w.heap.size ≤ k_) ∧ some k_ ≠ (.slice Ao10 x4_1.length co10 : Value).ownBlock)) _ _ x5_1 t104 t105 t106 t107 _ ?side1 A7.out).mono ?_); (case side1 => exact HO_5.out); rintro e w11 ⟨v108, rfl, ho0, hb⟩; refine ⟨_, rfl, ?_⟩; have n0_ := Aside0.mk (Kd.V_below (by (with_reducible repeat (first | apply Kd.V_alloc | apply Kd.V_drewN | apply Kd.V_drew)); exact HO_0.out) hb); have n1_ := Aside0.mk (Kd.R_below (by (with_reducible repeat (first | apply Kd.R_alloc | apply Kd.R_drewN | apply Kd.R_drew)); exact HO_4.out) hb); have n2_ := Aside0.mk (Kd.V_below (by (with_reducible repeat (first | apply Kd.V_alloc | apply Kd.V_drewN | apply Kd.V_drew)); exact HO_5.out) hb); have n3_ := Aside0.mk (Kd.V_lower (Kd.V_mono (ok' := fun k_ => (P0_ k_ ∨ w.heap.size ≤ k_) ∧ some k_ ≠ (.slice Ao10 x4_1.length co10 : Value).ownBlock) ho0 (fun k_ hk_ => ⟨Or.elim hk_ (fun hs_ => hs_.1) (fun hn_ => (.inr (Nat.le_trans (below_size (by repeat (first | (with_reducible first | exact HB.out | apply below_alloc | apply pw_below_drewN | apply below_drew1) | exact HB.out))) hn_))), Or.elim hk_ (fun hs_ => hs_.2) (fun hn_ => (Kd.fresh' (Kd.R_lt (by (with_reducible repeat (first | apply Kd.R_alloc | apply Kd.R_drewN | apply Kd.R_drew)); exact HO_4.out)) k_ hn_))⟩)) (below_size (by repeat (first | (with_reducible first | exact HB.out | apply below_alloc | apply pw_below_drewN | apply below_drew1) | exact HB.out)))); have n4_ := Aside0.mk (below_step (by repeat (first | (with_reducible first | exact HB.out | apply below_alloc | apply pw_below_drewN | apply below_drew1) | exact HB.out)) hb); clear HO_0; clear HO_4; clear HO_5; clear HB; have HO_0 := n0_; have HO_4 := n1_; have HO_5 := n2_; have HO109 := n3_; have HB := n4_; clear n0_ n1_ n2_ n3_ n4_; (try clear hb); (try clear hb2); (try clear hk); (try clear hi); (try clear ho0)) | ((with_reducible refine gate_dst (N := 6) rfl ?_); (try (refine gate_guard (by rfl) ?_; dsimp only)); refine box_event ?hg (N := 6) ?hd (cs := #[.int .i64 0, .int .i64 0, .string (⟨#[]⟩ : ByteArray)]) (t := 28) ?hr ?_; (case hd => rfl); (case hg => rfl); (case hr => first | (go_simp; done) | (go_simp; rfl)); intro gb110 hg w12 hbox hb; have n0_ := Aside0.mk (Kd.V_below (Kd.V_elderB (by (with_reducible repeat (first | apply Kd.V_alloc | apply Kd.V_drewN | apply Kd.V_drew)); exact HO_0.out) gb110 (Nat.le_of_eq hg.symm)) hb); have n1_ := Aside0.mk (Kd.R_below (Kd.R_elderB (by (with_reducible repeat (first | apply Kd.R_alloc | apply Kd.R_drewN | apply Kd.R_drew)); exact HO_4.out) gb110 (Nat.le_of_eq hg.symm)) hb); have n2_ := Aside0.mk (Kd.V_below (Kd.V_elderB (by (with_reducible repeat (first | apply Kd.V_alloc | apply Kd.V_drewN | apply Kd.V_drew)); exact HO_5.out) gb110 (Nat.le_of_eq hg.symm)) hb); have n3_ := Aside0.mk (Kd.V_below (Kd.V_elderB (by (with_reducible repeat (first | apply Kd.V_alloc | apply Kd.V_drewN | apply Kd.V_drew)); exact HO109.out) gb110 (Nat.le_of_eq hg.symm)) hb); have n4_ := Aside0.mk (below_step (by repeat (first | (with_reducible first | exact HB.out | apply below_alloc | apply pw_below_drewN | apply below_drew1) | exact HB.out)) hb); have n5_ := Aside0.mk (hbox); have n6_ := Aside0.mk ((by rw [hg]; exact (below_size (by repeat (first | (with_reducible first | exact HB.out | apply below_alloc | apply pw_below_drewN | apply below_drew1) | exact HB.out))) : w.heap.size ≤ gb110)); have n7_ := Aside0.mk ((by rw [hg]; exact (below_size (by repeat (first | (with_reducible first | exact HB.out | apply below_alloc | apply pw_below_drewN | apply below_drew1) | exact HB.out))) : w.heap.size ≤ gb110)); clear HO_0; clear HO_4; clear HO_5; clear HO109; clear HB; have HO_0 := n0_; have HO_4 := n1_; have HO_5 := n2_; have HO109 := n3_; have HB := n4_; have BK110 := n5_; have GW110 := n6_; have GE110 := n7_; clear n0_ n1_ n2_ n3_ n4_ n5_ n6_ n7_; clear hb hbox hg; have hcz13_0 : w12.cell? ⟨gb110, 0, none⟩ = some (.int .i64 0) := (blk_cell BK110.out 0).trans rfl; have hcz13_1 : w12.cell? ⟨gb110, 1, none⟩ = some (.int .i64 0) := (blk_cell BK110.out 1).trans rfl; have hcz13_2 : w12.cell? ⟨gb110, 2, none⟩ = some (.string (⟨#[]⟩ : ByteArray)) := (blk_cell BK110.out 2).trans rfl; have hfz13_0 := blk_frozen BK110.out 0; have hfz13_1 := blk_frozen BK110.out 1; have hfz13_2 := blk_frozen BK110.out 2) | ((with_reducible refine gate_builtin (b := .append) (xs := #[.tmp 23, .tmp 25]) rfl ?_); (try (refine gate_guard (by rfl) ?_; dsimp only)); at_builtin; refine Kd.R_append k28 (w0 := w) w.heap.size rfl (.tmp 23) (.tmp 25) 37 28 (.agg #[(.int .i64 0), (.int .i64 0), (.string ⟨#[]⟩)]) 32 rfl Try.underlying37 info28 rfl (by decide) (by omega) (.slice Ao10 x4_1.length co10) x4_1 (⟨t104, t105, t106⟩ : S28) [.int .i64 t104, .int .i64 t105, .string t106] (fun k_ => (w.heap.size ≤ k_) ∧ k_ ≠ gb110) (fun _ => False) rfl (by first | (go_simp; done) | (go_simp; rfl)) ?aP (fun _ hk => hk.elim) ?aF ?aO ?aB ?aS ?aL ?_; (case aP => exact k28_mkM _ _ _ (⟨t104, t105, t106⟩ : S28)); (case aB => exact (by repeat (first | (with_reducible first | exact HB.out | apply below_alloc | apply pw_below_drewN | apply below_drew1 | refine below_set ?_ GE110.out) | exact HB.out))); (case aF => exact (fun k_ hk => ⟨(Nat.le_trans (below_size (by repeat (first | (with_reducible first | exact HB.out | apply below_alloc | apply pw_below_drewN | apply below_drew1 | refine below_set ?_ GE110.out) | exact HB.out))) hk), Kd.freshB (g := gb110) (o := .cells #[.int .i64 t104, .int .i64 t105, .string t106] 28 (0, 0)) (by (with_reducible repeat (first | refine blk_drewN ?_ _ | refine blk_drew ?_ | refine blk_alloc ?_ _)); refine blk_put (cs := #[.int .i64 t104, .int .i64 t105, .string (⟨#[]⟩ : ByteArray)]) ?_ 2 _ rfl; (with_reducible repeat (first | refine blk_drewN ?_ _ | refine blk_drew ?_ | refine blk_alloc ?_ _)); refine blk_put (cs := #[.int .i64 t104, .int .i64 0, .string (⟨#[]⟩ : ByteArray)]) ?_ 1 _ rfl; (with_reducible repeat (first | refine blk_drewN ?_ _ | refine blk_drew ?_ | refine blk_alloc ?_ _)); refine blk_put (cs := #[.int .i64 0, .int .i64 0, .string (⟨#[]⟩ : ByteArray)]) ?_ 0 _ rfl; (with_reducible repeat (first | refine blk_drewN ?_ _ | refine blk_drew ?_ | refine blk_alloc ?_ _)); exact BK110.out) k_ hk⟩)); (case aO => exact (by (with_reducible repeat (first | apply Kd.R_alloc | apply Kd.R_drewN | apply Kd.R_drew)); exact Kd.R_mono (Kd.R_far (p := ⟨gb110, 2, none⟩) (Kd.R_far (p := ⟨gb110, 1, none⟩) (Kd.R_far (p := ⟨gb110, 0, none⟩) (Kd.R_mono HO_4.out (fun k_ hk => (⟨hk, hk.2⟩ : _ ∧ k_ ≠ gb110))) (fun _ hk => hk.2) (.int .i64 t104)) (fun _ hk => hk.2) (.int .i64 t105)) (fun _ hk => hk.2) (.string t106)) (fun _ hk => ⟨hk.1.1, hk.1.2⟩))); (case aS => exact (below_size (by repeat (first | (with_reducible first | exact HB.out | apply below_alloc | apply pw_below_drewN | apply below_drew1 | refine below_set ?_ GE110.out) | exact HB.out)))); (case aL => have := LMc8.out; omega); intro v112 w14 ho hb hg hat; rw [← Ny111.out] at ho; have n0_ := Aside0.mk (Kd.V_afterv (ok := (fun k_ => (P0_ k_ ∨ w.heap.size ≤ k_) ∧ k_ ≠ gb110)) (by (with_reducible repeat (first | apply Kd.V_alloc | apply Kd.V_drewN | apply Kd.V_drew)); exact Kd.V_mono (Kd.V_far (p := ⟨gb110, 2, none⟩) (Kd.V_far (p := ⟨gb110, 1, none⟩) (Kd.V_far (p := ⟨gb110, 0, none⟩) (Kd.V_mono HO_0.out (fun k_ hk => (⟨hk, hk.2⟩ : _ ∧ k_ ≠ gb110))) (fun _ hk => hk.2) (.int .i64 t104)) (fun _ hk => hk.2) (.int .i64 t105)) (fun _ hk => hk.2) (.string t106)) (fun _ hk => ⟨⟨hk.1.1.1, hk.1.2⟩, hk.1.1.2⟩)) hg hat); have n1_ := Aside0.mk (Kd.V_afterv (ok := (fun k_ => (P0_ k_ ∨ w.heap.size ≤ k_) ∧ k_ ≠ gb110)) (by (with_reducible repeat (first | apply Kd.V_alloc | apply Kd.V_drewN | apply Kd.V_drew)); exact Kd.V_mono (Kd.V_far (p := ⟨gb110, 2, none⟩) (Kd.V_far (p := ⟨gb110, 1, none⟩) (Kd.V_far (p := ⟨gb110, 0, none⟩) (Kd.V_mono HO_5.out (fun k_ hk => (⟨hk, hk.2⟩ : _ ∧ k_ ≠ gb110))) (fun _ hk => hk.2) (.int .i64 t104)) (fun _ hk => hk.2) (.int .i64 t105)) (fun _ hk => hk.2) (.string t106)) (fun _ hk => ⟨⟨hk.1.1.1, hk.1.2⟩, hk.1.1.2⟩)) hg hat); have n2_ := Aside0.mk (Kd.V_afterv (ok := (fun k_ => (P0_ k_ ∨ w.heap.size ≤ k_) ∧ k_ ≠ gb110)) (by (with_reducible repeat (first | apply Kd.V_alloc | apply Kd.V_drewN | apply Kd.V_drew)); exact Kd.V_mono (Kd.V_far (p := ⟨gb110, 2, none⟩) (Kd.V_far (p := ⟨gb110, 1, none⟩) (Kd.V_far (p := ⟨gb110, 0, none⟩) (Kd.V_mono HO109.out (fun k_ hk => (⟨hk, hk.2⟩ : _ ∧ k_ ≠ gb110))) (fun _ hk => hk.2) (.int .i64 t104)) (fun _ hk => hk.2) (.int .i64 t105)) (fun _ hk => hk.2) (.string t106)) (fun _ hk => ⟨⟨hk.1.1.1, hk.1.2⟩, hk.1.1.2⟩)) hg hat); have n3_ := Aside0.mk (blk_grown (g := gb110) (o := .cells #[.int .i64 t104, .int .i64 t105, .string t106] 28 (0, 0)) (by (with_reducible repeat (first | refine blk_drewN ?_ _ | refine blk_drew ?_ | refine blk_alloc ?_ _)); refine blk_put (cs := #[.int .i64 t104, .int .i64 t105, .string (⟨#[]⟩ : ByteArray)]) ?_ 2 _ rfl; (with_reducible repeat (first | refine blk_drewN ?_ _ | refine blk_drew ?_ | refine blk_alloc ?_ _)); refine blk_put (cs := #[.int .i64 t104, .int .i64 0, .string (⟨#[]⟩ : ByteArray)]) ?_ 1 _ rfl; (with_reducible repeat (first | refine blk_drewN ?_ _ | refine blk_drew ?_ | refine blk_alloc ?_ _)); refine blk_put (cs := #[.int .i64 0, .int .i64 0, .string (⟨#[]⟩ : ByteArray)]) ?_ 0 _ rfl; (with_reducible repeat (first | refine blk_drewN ?_ _ | refine blk_drew ?_ | refine blk_alloc ?_ _)); exact BK110.out) hg (Kd.R_away HO_4.out (fun _ hk => hk.2))); have n4_ := Aside0.mk (hb); have n5_ := Aside0.mk (ho); clear HO_0; clear HO_5; clear HO109; clear BK110; clear HB; clear HO_4; have HO_0 := n0_; have HO_5 := n1_; have HO109 := n2_; have BK110 := n3_; have HB := n4_; have HO113 := n5_; clear n0_ n1_ n2_ n3_ n4_ n5_; clear ho hb hg hat))
              go_roundg k1
              case measure => have := HK1.out; omega
              case rel => exact ⟨(y111), (t107), H', ⟨by have := HK1.out; omega⟩, ⟨by (with_reducible repeat (first | apply Kd.V_alloc | apply Kd.V_drewN | apply Kd.V_drew)); exact Kd.V_mono HO_0.out (fun _ hk => ⟨hk.1.1, hk.2⟩)⟩, ⟨by (with_reducible repeat (first | apply Kd.R_alloc | apply Kd.R_drewN | apply Kd.R_drew)); exact Kd.R_mono HO113.out (fun _ hk => hk.1)⟩, ⟨by (with_reducible repeat (first | apply Kd.V_alloc | apply Kd.V_drewN | apply Kd.V_drew)); exact Kd.V_mono HO109.out (fun _ hk => ⟨hk.1.1, hk.2⟩)⟩, ⟨by repeat (first | (with_reducible first | exact HB.out | apply below_alloc | apply pw_below_drewN | apply below_drew1 | refine below_set ?_ GE110.out) | exact HB.out)⟩⟩
            · rw [if_neg c8] at H
              exact absurd H (by simp)
          · rw [if_neg c6] at H
            have c6b0 : decide ((x4_1.length : Int) ≤ 4) = false := decide_eq_false c6
            have c6b1 : decide (x4_1.length ≤ 4) = false := decide_eq_false (by omega)
            clear c6
            have H' := Aside0.mk H
            clear H
            obtain ⟨Ao15, co15, eo15⟩ := Kd.V_slice HO_5.out
            subst eo15
            obtain ⟨Ao16, co16, eo16⟩ := Kd.R_slice HO_4.out
            subst eo16
            go_wp2
            go_meet
            case rel => exact ⟨_, (x4_1), H', ⟨by have := HK1.out; first | omega | exact Nat.le_refl _⟩, ⟨by (with_reducible repeat (first | apply Kd.V_alloc | apply Kd.V_drewN | apply Kd.V_drew)); exact HO_0.out⟩, ⟨by (with_reducible repeat (first | apply Kd.R_alloc | apply Kd.R_drewN | apply Kd.R_drew)); exact HO_4.out⟩, ⟨by repeat (first | (with_reducible first | exact HB.out | apply below_alloc | apply pw_below_drewN | apply below_drew1) | exact HB.out)⟩⟩
        · rw [if_neg c5] at H
          have c5b0 : decide (0 < (x5_1.length : Int)) = false := decide_eq_false c5
          have c5b1 : decide (0 < x5_1.length) = false := decide_eq_false (by omega)
          clear c5
          (first | rw [c5b0] | (simp only [i64_w, i32_w]; rw [c5b0]) | skip)
          have H' := Aside0.mk H
          clear H
          obtain ⟨Ao17, co17, eo17⟩ := Kd.V_slice HO_5.out
          subst eo17
          go_wp2
          go_meet
          case rel => exact ⟨_, (x4_1), H', ⟨by have := HK1.out; first | omega | exact Nat.le_refl _⟩, ⟨by (with_reducible repeat (first | apply Kd.V_alloc | apply Kd.V_drewN | apply Kd.V_drew)); exact HO_0.out⟩, ⟨by (with_reducible repeat (first | apply Kd.R_alloc | apply Kd.R_drewN | apply Kd.R_drew)); exact HO_4.out⟩, ⟨by repeat (first | (with_reducible first | exact HB.out | apply below_alloc | apply pw_below_drewN | apply below_drew1) | exact HB.out)⟩⟩
  case rest =>
    clear HC2
    try clear p2
    try clear c5
    try clear c5b0
    try clear c5b1
    try clear c6
    try clear c6b0
    try clear c6b1
    try clear c8
    try clear hcz13_0
    try clear hcz13_1
    try clear hcz13_2
    try clear hfz13_0
    try clear hfz13_1
    try clear hfz13_2
    try clear p2
    obtain ⟨kq, x4_1, HA, HJ1, HO_0, HO_4, HB⟩ := hcut
    cases kq with
    | zero => exact absurd HA.out (by simp [impl_TupleOf.j1])
    | succ kj1 =>
      have H := HA.out
      clear HA
      simp only [impl_TupleOf.j1] at H
      replace H := Option.bind_eq_some_iff.mp H
      obtain ⟨t114, A180, H⟩ := H
      replace H : (if t114 = true then ((impl_TupleBytes.f kj1 x4_1).bind fun t115 => ((bytes_Equal.f t115 l0).bind fun t118 => (if t118 = true then (some (x4_1, true)) else (some (([] : List (S28)), false))))) else (some (([] : List (S28)), false))) = some (r1, r2) := H
      have A18 := Aside0.mk A180
      clear A180
      by_cases c19 : t114 = true
      · subst c19
        have H1 : ((impl_TupleBytes.f kj1 x4_1).bind fun t115 => ((bytes_Equal.f t115 l0).bind fun t118 => (if t118 = true then (some (x4_1, true)) else (some (([] : List (S28)), false))))) = some (r1, r2) := by rw [if_pos rfl] at H; exact H
        clear H
        have H := H1
        clear H1
        replace H := Option.bind_eq_some_iff.mp H
        obtain ⟨t115, A200, H⟩ := H
        replace H : ((bytes_Equal.f t115 l0).bind fun t118 => (if t118 = true then (some (x4_1, true)) else (some (([] : List (S28)), false)))) = some (r1, r2) := H
        have A20 := Aside0.mk A200
        clear A200
        replace H := Option.bind_eq_some_iff.mp H
        obtain ⟨t118, A210, H⟩ := H
        replace H : (if t118 = true then (some (x4_1, true)) else (some (([] : List (S28)), false))) = some (r1, r2) := H
        have A21 := Aside0.mk A210
        clear A210
        by_cases c22 : t118 = true
        · subst c22
          have H1 : (some (x4_1, true)) = some (r1, r2) := by rw [if_pos rfl] at H; exact H
          clear H
          have H := H1
          clear H1
          simp only [Option.some.injEq, Prod.mk.injEq] at H
          obtain ⟨rfl, rfl⟩ := H
          obtain ⟨Ao23, co23, eo23⟩ := Kd.R_slice HO_4.out
          subst eo23
          go_wp2_with (first | ((with_reducible refine gate_callee (f := 33) rfl ?_); refine goesL_ (some 29) rfl rfl Try.func33 (by kernel_rfl) rfl #[.slice Ao23 x4_1.length co23] rfl (by (try simp only [List.map_toArray, List.map_cons, List.map_nil]); first | done | rfl | (simp only [List.length_drop, List.length_take]; rfl)) ?_; (with_reducible refine (impl_TupleOk.calls kj1 _ _ x4_1 true _ ?side1 ?side2 A18.out).mono ?_); (case side1 => repeat (first | exact (Kd.R_reads' HO_4.out).2.2 | (with_reducible refine Kd.C_alloc ?_ _) | (with_reducible refine Kd.C_drewN ?_ _) | (with_reducible refine Kd.C_drew ?_))); (case side2 => exact (Kd.R_reads' HO_4.out).2.1); rintro e w24 ⟨rfl, hb⟩; refine ⟨_, rfl, ?_⟩; have n0_ := Aside0.mk (Kd.V_below (by (with_reducible repeat (first | apply Kd.V_alloc | apply Kd.V_drewN | apply Kd.V_drew)); exact HO_0.out) hb); have n1_ := Aside0.mk (Kd.R_below (by (with_reducible repeat (first | apply Kd.R_alloc | apply Kd.R_drewN | apply Kd.R_drew)); exact HO_4.out) hb); have n2_ := Aside0.mk (below_step (by repeat (first | (with_reducible first | exact HB.out | apply below_alloc | apply pw_below_drewN | apply below_drew1) | exact HB.out)) hb); clear HO_0; clear HO_4; clear HB; have HO_0 := n0_; have HO_4 := n1_; have HB := n2_; clear n0_ n1_ n2_; (try clear hb); (try clear hb2); (try clear hk); (try clear hi)) | (go_at_call 44; (with_reducible refine (impl_TupleBytes.calls kj1 _ _ x4_1 t115 _ ?side1 ?side2 A20.out).mono ?_); (case side1 => repeat (first | exact (Kd.R_reads' HO_4.out).2.2 | (with_reducible refine Kd.C_alloc ?_ _) | (with_reducible refine Kd.C_drewN ?_ _) | (with_reducible refine Kd.C_drew ?_))); (case side2 => exact (Kd.R_reads' HO_4.out).2.1); rintro e w25 ⟨v116, rfl, ho0, hb⟩; have n0_ := Aside0.mk (Kd.V_elder' (by (with_reducible repeat (first | apply Kd.V_alloc | apply Kd.V_drewN | apply Kd.V_drew)); exact HO_0.out) (Kd.R_base ho0) hb); have n1_ := Aside0.mk (Kd.R_below (by (with_reducible repeat (first | apply Kd.R_alloc | apply Kd.R_drewN | apply Kd.R_drew)); exact HO_4.out) hb); have n2_ := Aside0.mk (Kd.R_lower (Kd.R_newM (M := fun k_ => (w.heap.size ≤ k_)) ho0 (below_size (by repeat (first | (with_reducible first | exact HB.out | apply below_alloc | apply pw_below_drewN | apply below_drew1) | exact HB.out))) (fun k_ h_ => h_)) (below_size (by repeat (first | (with_reducible first | exact HB.out | apply below_alloc | apply pw_below_drewN | apply below_drew1) | exact HB.out)))); have n3_ := Aside0.mk (below_step (by repeat (first | (with_reducible first | exact HB.out | apply below_alloc | apply pw_below_drewN | apply below_drew1) | exact HB.out)) hb); clear HO_0; clear HO_4; clear HB; have HO_0 := n0_; have HO_4 := n1_; have HO117 := n2_; have HB := n3_; clear n0_ n1_ n2_ n3_; (try clear hb); (try clear hb2); (try clear hk); (try clear hi); (try clear ho0); obtain ⟨Ao26, co26, eo26⟩ := Kd.R_slice HO117.out; subst eo26) | (go_at_call 67; (with_reducible refine (bytes_Equal.calls _ _ t115 _ _ l0 true _ ?side1 ?side2 ?side3 ?side4 A21.out).mono ?_); (case side1 => repeat (first | exact (Kd.R_reads' HO117.out).2.2 | (with_reducible refine Kd.C_alloc ?_ _) | (with_reducible refine Kd.C_drewN ?_ _) | (with_reducible refine Kd.C_drew ?_))); (case side2 => exact (Kd.R_reads' HO117.out).2.1); (case side3 => repeat (first | exact (Kd.V_reads' HO_0.out).2.2 | (with_reducible refine Kd.C_alloc ?_ _) | (with_reducible refine Kd.C_drewN ?_ _) | (with_reducible refine Kd.C_drew ?_))); (case side4 => exact (Kd.V_reads' HO_0.out).2.1); rintro e w' ⟨rfl, ⟨nd, rfl⟩⟩))
          go_ret2
          exact ⟨_, by first | rfl | (simp [errW_none, errW_some] <;> rfl) | (simp [*, errW_none, errW_some] <;> rfl), by (with_reducible repeat (first | apply Kd.R_alloc | apply Kd.R_drewN | apply Kd.R_drew)); exact HO_4.out, by repeat (first | (with_reducible first | exact HB.out | apply below_alloc | apply pw_below_drewN | apply below_drew1) | exact HB.out)⟩
        · replace c22 := Bool.eq_false_iff.mpr c22
          subst c22
          have H1 : (some (([] : List (S28)), false)) = some (r1, r2) := by rw [if_neg (show ¬ (false = true) by decide)] at H; exact H
          clear H
          have H := H1
          clear H1
          simp only [Option.some.injEq, Prod.mk.injEq] at H
          obtain ⟨rfl, rfl⟩ := H
          obtain ⟨Ao27, co27, eo27⟩ := Kd.R_slice HO_4.out
          subst eo27
          go_wp2_with (first | ((with_reducible refine gate_callee (f := 33) rfl ?_); refine goesL_ (some 29) rfl rfl Try.func33 (by kernel_rfl) rfl #[.slice Ao27 x4_1.length co27] rfl (by (try simp only [List.map_toArray, List.map_cons, List.map_nil]); first | done | rfl | (simp only [List.length_drop, List.length_take]; rfl)) ?_; (with_reducible refine (impl_TupleOk.calls kj1 _ _ x4_1 true _ ?side1 ?side2 A18.out).mono ?_); (case side1 => repeat (first | exact (Kd.R_reads' HO_4.out).2.2 | (with_reducible refine Kd.C_alloc ?_ _) | (with_reducible refine Kd.C_drewN ?_ _) | (with_reducible refine Kd.C_drew ?_))); (case side2 => exact (Kd.R_reads' HO_4.out).2.1); rintro e w28 ⟨rfl, hb⟩; refine ⟨_, rfl, ?_⟩; have n0_ := Aside0.mk (Kd.V_below (by (with_reducible repeat (first | apply Kd.V_alloc | apply Kd.V_drewN | apply Kd.V_drew)); exact HO_0.out) hb); have n1_ := Aside0.mk (Kd.R_below (by (with_reducible repeat (first | apply Kd.R_alloc | apply Kd.R_drewN | apply Kd.R_drew)); exact HO_4.out) hb); have n2_ := Aside0.mk (below_step (by repeat (first | (with_reducible first | exact HB.out | apply below_alloc | apply pw_below_drewN | apply below_drew1) | exact HB.out)) hb); clear HO_0; clear HO_4; clear HB; have HO_0 := n0_; have HO_4 := n1_; have HB := n2_; clear n0_ n1_ n2_; (try clear hb); (try clear hb2); (try clear hk); (try clear hi)) | (go_at_call 44; (with_reducible refine (impl_TupleBytes.calls kj1 _ _ x4_1 t115 _ ?side1 ?side2 A20.out).mono ?_); (case side1 => repeat (first | exact (Kd.R_reads' HO_4.out).2.2 | (with_reducible refine Kd.C_alloc ?_ _) | (with_reducible refine Kd.C_drewN ?_ _) | (with_reducible refine Kd.C_drew ?_))); (case side2 => exact (Kd.R_reads' HO_4.out).2.1); rintro e w29 ⟨v116, rfl, ho0, hb⟩; have n0_ := Aside0.mk (Kd.V_elder' (by (with_reducible repeat (first | apply Kd.V_alloc | apply Kd.V_drewN | apply Kd.V_drew)); exact HO_0.out) (Kd.R_base ho0) hb); have n1_ := Aside0.mk (Kd.R_below (by (with_reducible repeat (first | apply Kd.R_alloc | apply Kd.R_drewN | apply Kd.R_drew)); exact HO_4.out) hb); have n2_ := Aside0.mk (Kd.R_lower (Kd.R_newM (M := fun k_ => (w.heap.size ≤ k_)) ho0 (below_size (by repeat (first | (with_reducible first | exact HB.out | apply below_alloc | apply pw_below_drewN | apply below_drew1) | exact HB.out))) (fun k_ h_ => h_)) (below_size (by repeat (first | (with_reducible first | exact HB.out | apply below_alloc | apply pw_below_drewN | apply below_drew1) | exact HB.out)))); have n3_ := Aside0.mk (below_step (by repeat (first | (with_reducible first | exact HB.out | apply below_alloc | apply pw_below_drewN | apply below_drew1) | exact HB.out)) hb); clear HO_0; clear HO_4; clear HB; have HO_0 := n0_; have HO_4 := n1_; have HO117 := n2_; have HB := n3_; clear n0_ n1_ n2_ n3_; (try clear hb); (try clear hb2); (try clear hk); (try clear hi); (try clear ho0); obtain ⟨Ao30, co30, eo30⟩ := Kd.R_slice HO117.out; subst eo30) | (go_at_call 67; (with_reducible refine (bytes_Equal.calls _ _ t115 _ _ l0 false _ ?side1 ?side2 ?side3 ?side4 A21.out).mono ?_); (case side1 => repeat (first | exact (Kd.R_reads' HO117.out).2.2 | (with_reducible refine Kd.C_alloc ?_ _) | (with_reducible refine Kd.C_drewN ?_ _) | (with_reducible refine Kd.C_drew ?_))); (case side2 => exact (Kd.R_reads' HO117.out).2.1); (case side3 => repeat (first | exact (Kd.V_reads' HO_0.out).2.2 | (with_reducible refine Kd.C_alloc ?_ _) | (with_reducible refine Kd.C_drewN ?_ _) | (with_reducible refine Kd.C_drew ?_))); (case side4 => exact (Kd.V_reads' HO_0.out).2.1); rintro e w' ⟨rfl, ⟨nd, rfl⟩⟩))
          go_ret2
          exact ⟨(Value.slice none 0 0), by first | rfl | (simp [errW_none, errW_some] <;> rfl) | (simp [*, errW_none, errW_some] <;> rfl), (by first | exact Kd.R_nil _ _ _ _ _ | exact Kd.S_nil _ _ _ _ _ | exact Kd.V_nil _ _ _ _ _ | exact Kd.N_nil _ _ _ _ _ | exact Kd.Q_nil _ _ _ _ _), by repeat (first | (with_reducible first | exact HB.out | apply below_alloc | apply pw_below_drewN | apply below_drew1) | exact HB.out)⟩
      · replace c19 := Bool.eq_false_iff.mpr c19
        subst c19
        have H1 : (some (([] : List (S28)), false)) = some (r1, r2) := by rw [if_neg (show ¬ (false = true) by decide)] at H; exact H
        clear H
        have H := H1
        clear H1
        simp only [Option.some.injEq, Prod.mk.injEq] at H
        obtain ⟨rfl, rfl⟩ := H
        obtain ⟨Ao31, co31, eo31⟩ := Kd.R_slice HO_4.out
        subst eo31
        go_wp2_with (first | ((with_reducible refine gate_callee (f := 33) rfl ?_); refine goesL_ (some 29) rfl rfl Try.func33 (by kernel_rfl) rfl #[.slice Ao31 x4_1.length co31] rfl (by (try simp only [List.map_toArray, List.map_cons, List.map_nil]); first | done | rfl | (simp only [List.length_drop, List.length_take]; rfl)) ?_; (with_reducible refine (impl_TupleOk.calls kj1 _ _ x4_1 false _ ?side1 ?side2 A18.out).mono ?_); (case side1 => repeat (first | exact (Kd.R_reads' HO_4.out).2.2 | (with_reducible refine Kd.C_alloc ?_ _) | (with_reducible refine Kd.C_drewN ?_ _) | (with_reducible refine Kd.C_drew ?_))); (case side2 => exact (Kd.R_reads' HO_4.out).2.1); rintro e w32 ⟨rfl, hb⟩; refine ⟨_, rfl, ?_⟩; have n0_ := Aside0.mk (Kd.V_below (by (with_reducible repeat (first | apply Kd.V_alloc | apply Kd.V_drewN | apply Kd.V_drew)); exact HO_0.out) hb); have n1_ := Aside0.mk (Kd.R_below (by (with_reducible repeat (first | apply Kd.R_alloc | apply Kd.R_drewN | apply Kd.R_drew)); exact HO_4.out) hb); have n2_ := Aside0.mk (below_step (by repeat (first | (with_reducible first | exact HB.out | apply below_alloc | apply pw_below_drewN | apply below_drew1) | exact HB.out)) hb); clear HO_0; clear HO_4; clear HB; have HO_0 := n0_; have HO_4 := n1_; have HB := n2_; clear n0_ n1_ n2_; (try clear hb); (try clear hb2); (try clear hk); (try clear hi)))
        go_ret2
        exact ⟨(Value.slice none 0 0), by first | rfl | (simp [errW_none, errW_some] <;> rfl) | (simp [*, errW_none, errW_some] <;> rfl), (by first | exact Kd.R_nil _ _ _ _ _ | exact Kd.S_nil _ _ _ _ _ | exact Kd.V_nil _ _ _ _ _ | exact Kd.N_nil _ _ _ _ _ | exact Kd.Q_nil _ _ _ _ _), by repeat (first | (with_reducible first | exact HB.out | apply below_alloc | apply pw_below_drewN | apply below_drew1) | exact HB.out)⟩
end Go.Proofs.Ytgnmdhkkbkoghaa.P
namespace Go.Proofs.Ytgnmdhkkbkoghaa.P
open Go.RowKit Go.Proofs.YtgnmdhkkbkoghaaW.PrintWords Go.Proofs.YtgnmdhkkbkoghaaW.PrintLast Go.Proofs.YtgnmdhkkbkoghaaW.PrintMore
attribute [local go_sem] max2_int min2_int max_two min_two max_three min_three max_four min_four   -- for this text's walks alone
set_option linter.unusedVariables false
set_option linter.unusedSimpArgs false
mutual
def laws_FnExactTupleOf.j0 : Nat → List Int → List (S28) → Bool → List Int → List (S28) → Bool → Bool → Option (Bool)
  | 0, _, _, _, _, _, _, _ => none
  | k + 1, x0, x3, x4, x5, x6, x7, x37 => if x37 = true then (some false) else ((laws_toByteS.f k x0).bind fun t116 => ((laws_eqByteS.f k x5 t116).bind fun t119 => (if t119 = true then ((laws_markByteS.f k x5 1).bind fun bt120 => (if bt120.1 < 0 then (laws_FnExactTupleOf.j1 k x0 x3 x4 x6 true) else ((laws_eqValueS.f k x6 x3).bind fun t122 => (if t122 = true then (laws_FnExactTupleOf.j1 k x0 x3 x4 x6 (x7 != x4)) else (laws_FnExactTupleOf.j1 k x0 x3 x4 x6 true))))) else (some false))))
def laws_FnExactTupleOf.j1 : Nat → List Int → List (S28) → Bool → List (S28) → Bool → Option (Bool)
  | 0, _, _, _, _, _ => none
  | k + 1, x0, x3, x4, x6, x58 => if x58 = true then (some false) else ((laws_markValueS.f k x6 1).bind fun bt123 => ((laws_heldValueS.f k bt123.2 1).bind fun t125 => (if t125 < 0 then (some false) else (if t125 = bt123.1 then ((laws_toByteS.f k x0).bind fun t126 => ((impl_TupleOf.f k t126).bind fun bt129 => ((laws_eqValueS.f k bt129.1 x3).bind fun t133 => (if t133 = true then (laws_FnExactTupleOf.j2 k bt123.2 bt123.1 (bt129.2 != x4)) else (laws_FnExactTupleOf.j2 k bt123.2 bt123.1 true))))) else (some false)))))
def laws_FnExactTupleOf.j2 : Nat → List (S28) → Int → Bool → Option (Bool)
  | 0, _, _, _ => none
  | k + 1, x6, x9, x84 => if x84 = true then (some false) else ((laws_heldValueS.f k x6 1).bind fun t134 => (if t134 < 0 then (some false) else (if t134 = x9 then (some true) else (some false))))
end
def laws_FnExactTupleOf.f (k : Nat) (l0 : List Int) : Option (Bool) := if (l0.length : Int) > 1048576 then (some true) else ((laws_toByteS.f k l0).bind fun t101 => ((spec_TupleOf.f k t101).bind fun bt104 => ((laws_toByteS.f k l0).bind fun t108 => ((impl_TupleOf.f k t108).bind fun bt111 => ((laws_eqValueS.f k bt111.1 bt104.1).bind fun t115 => (if t115 = true then (laws_FnExactTupleOf.j0 k l0 bt104.1 bt104.2 t108 bt111.1 bt111.2 (bt111.2 != bt104.2)) else (laws_FnExactTupleOf.j0 k l0 bt104.1 bt104.2 t108 bt111.1 bt111.2 true)))))))
set_option maxHeartbeats 8000000 in
set_option maxRecDepth 100000 in
theorem laws_FnExactTupleOf.calls (k : Nat) (A0 : Option Addr) (c0 : Nat) (l0 : List Int) (r : Bool) (w : World) (hr0 : Kd.C (Kd.int .u8) w A0 l0.length l0) (hc0 : l0.length ≤ c0) (h : laws_FnExactTupleOf.f k l0 = some r) :
    Calls Try.prog 14 #[.slice A0 l0.length c0] w fun e w' => e = .returned (.bool r) ∧ Below w.heap.size w w' := by
  have HR0 := Aside0.mk hr0
  have HC0 := Aside0.mk hc0
  clear hr0 hc0
  have HB := Aside0.mk (Below.refl w.heap.size w)
  have H : (if (l0.length : Int) > 1048576 then (some true) else ((laws_toByteS.f k l0).bind fun t101 => ((spec_TupleOf.f k t101).bind fun bt104 => ((laws_toByteS.f k l0).bind fun t108 => ((impl_TupleOf.f k t108).bind fun bt111 => ((laws_eqValueS.f k bt111.1 bt104.1).bind fun t115 => (if t115 = true then (laws_FnExactTupleOf.j0 k l0 bt104.1 bt104.2 t108 bt111.1 bt111.2 (bt111.2 != bt104.2)) else (laws_FnExactTupleOf.j0 k l0 bt104.1 bt104.2 t108 bt111.1 bt111.2 true)))))))) = some r := h
  clear h
  by_cases c2 : (l0.length : Int) > 1048576
  · rw [if_pos c2] at H
    have c2b0 : decide (1048576 < (l0.length : Int)) = true := decide_eq_true c2
    have c2b1 : decide (1048576 < l0.length) = true := decide_eq_true (by omega)
    clear c2
    obtain rfl := Option.some.inj H
    go_enter Try.func14, Try.ntmps14
    go_wp2
    go_ret
    exact ⟨by first | rfl | (simp [errW_none, errW_some] <;> rfl) | (simp [*, errW_none, errW_some] <;> rfl), by repeat (first | (with_reducible first | exact HB.out | apply below_alloc | apply pw_below_drewN | apply below_drew1) | exact HB.out)⟩
  · rw [if_neg c2] at H
    have c2b0 : decide (1048576 < (l0.length : Int)) = false := decide_eq_false c2
    have c2b1 : decide (1048576 < l0.length) = false := decide_eq_false (by omega)
    clear c2
    replace H := Option.bind_eq_some_iff.mp H
    obtain ⟨t101, A30, H⟩ := H
    replace H : ((spec_TupleOf.f k t101).bind fun bt104 => ((laws_toByteS.f k l0).bind fun t108 => ((impl_TupleOf.f k t108).bind fun bt111 => ((laws_eqValueS.f k bt111.1 bt104.1).bind fun t115 => (if t115 = true then (laws_FnExactTupleOf.j0 k l0 bt104.1 bt104.2 t108 bt111.1 bt111.2 (bt111.2 != bt104.2)) else (laws_FnExactTupleOf.j0 k l0 bt104.1 bt104.2 t108 bt111.1 bt111.2 true)))))) = some r := H
    have A3 := Aside0.mk A30
    clear A30
    replace H := Option.bind_eq_some_iff.mp H
    obtain ⟨⟨t104, t105⟩, A40, H⟩ := H
    replace H : ((laws_toByteS.f k l0).bind fun t108 => ((impl_TupleOf.f k t108).bind fun bt111 => ((laws_eqValueS.f k bt111.1 t104).bind fun t115 => (if t115 = true then (laws_FnExactTupleOf.j0 k l0 t104 t105 t108 bt111.1 bt111.2 (bt111.2 != t105)) else (laws_FnExactTupleOf.j0 k l0 t104 t105 t108 bt111.1 bt111.2 true))))) = some r := H
    have A4 := Aside0.mk A40
    clear A40
    replace H := Option.bind_eq_some_iff.mp H
    obtain ⟨t108, A50, H⟩ := H
    replace H : ((impl_TupleOf.f k t108).bind fun bt111 => ((laws_eqValueS.f k bt111.1 t104).bind fun t115 => (if t115 = true then (laws_FnExactTupleOf.j0 k l0 t104 t105 t108 bt111.1 bt111.2 (bt111.2 != t105)) else (laws_FnExactTupleOf.j0 k l0 t104 t105 t108 bt111.1 bt111.2 true)))) = some r := H
    have A5 := Aside0.mk A50
    clear A50
    replace H := Option.bind_eq_some_iff.mp H
    obtain ⟨⟨t111, t114⟩, A60, H⟩ := H
    replace H : ((laws_eqValueS.f k t111 t104).bind fun t115 => (if t115 = true then (laws_FnExactTupleOf.j0 k l0 t104 t105 t108 t111 t114 (t114 != t105)) else (laws_FnExactTupleOf.j0 k l0 t104 t105 t108 t111 t114 true))) = some r := H
    have A6 := Aside0.mk A60
    clear A60
    have HC7 := Aside0.mk H
    clear H
    go_enter Try.func14, Try.ntmps14
    go_upto_region 6 with (first | ((with_reducible refine gate_callee (f := 51) rfl ?_); refine goesL_ (some 18) rfl rfl Try.func51 (by kernel_rfl) rfl #[.slice A0 l0.length c0] rfl (by (try simp only [List.map_toArray, List.map_cons, List.map_nil]); first | done | rfl | (simp only [List.length_drop, List.length_take]; rfl)) ?_; (with_reducible refine (laws_toByteS.calls k _ _ l0 t101 _ ?side1 ?side2 A3.out).mono ?_); (case side1 => repeat (first | exact HR0.out | (with_reducible refine Kd.C_alloc ?_ _) | (with_reducible refine Kd.C_drewN ?_ _) | (with_reducible refine Kd.C_drew ?_))); (case side2 => exact HC0.out); rintro e w8 ⟨v102, rfl, ho0, hb⟩; refine ⟨_, rfl, ?_⟩; have n0_ := Aside0.mk (Kd.R_lower ho0 (below_size (by repeat (first | (with_reducible first | exact HB.out | apply below_alloc | apply pw_below_drewN | apply below_drew1) | exact HB.out)))); have n1_ := Aside0.mk (below_step (by repeat (first | (with_reducible first | exact HB.out | apply below_alloc | apply pw_below_drewN | apply below_drew1) | exact HB.out)) hb); clear HB; have HO103 := n0_; have HB := n1_; clear n0_ n1_; (try clear hb); (try clear hb2); (try clear hk); (try clear hi); (try clear ho0); obtain ⟨Ao9, co9, eo9⟩ := Kd.R_slice HO103.out; subst eo9) | ((with_reducible refine gate_callee (f := 50) rfl ?_); refine goesL_ (some 19) rfl rfl Try.func50 (by kernel_rfl) rfl #[.slice Ao9 t101.length co9] rfl (by (try simp only [List.map_toArray, List.map_cons, List.map_nil]); first | done | rfl | (simp only [List.length_drop, List.length_take]; rfl)) ?_; (with_reducible refine (spec_TupleOf.calls k _ _ t101 t104 t105 _ ?side1 ?side2 A4.out).mono ?_); (case side1 => repeat (first | exact (Kd.R_reads' HO103.out).2.2 | (with_reducible refine Kd.C_alloc ?_ _) | (with_reducible refine Kd.C_drewN ?_ _) | (with_reducible refine Kd.C_drew ?_))); (case side2 => exact (Kd.R_reads' HO103.out).2.1); rintro e w10 ⟨v106, rfl, ho0, hb⟩; refine ⟨_, rfl, ?_⟩; have n0_ := Aside0.mk (Kd.R_below (by (with_reducible repeat (first | apply Kd.R_alloc | apply Kd.R_drewN | apply Kd.R_drew)); exact HO103.out) hb); have n1_ := Aside0.mk (Kd.R_lower ho0 (below_size (by repeat (first | (with_reducible first | exact HB.out | apply below_alloc | apply pw_below_drewN | apply below_drew1) | exact HB.out)))); have n2_ := Aside0.mk (below_step (by repeat (first | (with_reducible first | exact HB.out | apply below_alloc | apply pw_below_drewN | apply below_drew1) | exact HB.out)) hb); clear HO103; clear HB; have HO103 := n0_; have HO107 := n1_; have HB := n2_; clear n0_ n1_ n2_; (try clear hb); (try clear hb2); (try clear hk); (try clear hi); (try clear ho0)) | ((with_reducible refine gate_callee (f := 51) rfl ?_); refine goesL_ (some 23) rfl rfl Try.func51 (by kernel_rfl) rfl #[.slice A0 l0.length c0] rfl (by (try simp only [List.map_toArray, List.map_cons, List.map_nil]); first | done | rfl | (simp only [List.length_drop, List.length_take]; rfl)) ?_; (with_reducible refine (laws_toByteS.calls k _ _ l0 t108 _ ?side1 ?side2 A5.out).mono ?_); (case side1 => repeat (first | exact (Kd.C_below HR0.out HB.out) | (with_reducible refine Kd.C_alloc ?_ _) | (with_reducible refine Kd.C_drewN ?_ _) | (with_reducible refine Kd.C_drew ?_))); (case side2 => exact HC0.out); rintro e w11 ⟨v109, rfl, ho0, hb⟩; refine ⟨_, rfl, ?_⟩; have n0_ := Aside0.mk (Kd.R_elder' (by (with_reducible repeat (first | apply Kd.R_alloc | apply Kd.R_drewN | apply Kd.R_drew)); exact HO103.out) (Kd.R_base ho0) hb); have n1_ := Aside0.mk (Kd.R_below (by (with_reducible repeat (first | apply Kd.R_alloc | apply Kd.R_drewN | apply Kd.R_drew)); exact HO107.out) hb); have n2_ := Aside0.mk (Kd.R_lower (Kd.R_new' ho0 (Kd.R_lt (by (with_reducible repeat (first | apply Kd.R_alloc | apply Kd.R_drewN | apply Kd.R_drew)); exact HO103.out))) (below_size (by repeat (first | (with_reducible first | exact HB.out | apply below_alloc | apply pw_below_drewN | apply below_drew1) | exact HB.out)))); have n3_ := Aside0.mk (below_step (by repeat (first | (with_reducible first | exact HB.out | apply below_alloc | apply pw_below_drewN | apply below_drew1) | exact HB.out)) hb); clear HO103; clear HO107; clear HB; have HO103 := n0_; have HO107 := n1_; have HO110 := n2_; have HB := n3_; clear n0_ n1_ n2_ n3_; (try clear hb); (try clear hb2); (try clear hk); (try clear hi); (try clear ho0); obtain ⟨Ao12, co12, eo12⟩ := Kd.R_slice HO110.out; subst eo12) | ((with_reducible refine gate_callee (f := 52) rfl ?_); refine goesL_ (some 26) rfl rfl Try.func52 (by kernel_rfl) rfl #[.slice Ao12 t108.length co12] rfl (by (try simp only [List.map_toArray, List.map_cons, List.map_nil]); first | done | rfl | (simp only [List.length_drop, List.length_take]; rfl)) ?_; (with_reducible refine (impl_TupleOf.calls k (fun k_ => some k_ = (.slice Ao12 t108.length co12 : Value).ownBlock) _ _ t108 t111 t114 _ ?side1 A6.out).mono ?_); (case side1 => exact Kd.R_V (Kd.R_tight rfl (Kd.R_apart' (HO110.out) (Kd.R_typed HO107.out) (by decide)))); rintro e w13 ⟨v112, rfl, ho0, hb⟩; refine ⟨_, rfl, ?_⟩; have n0_ := Aside0.mk (Kd.R_below (by (with_reducible repeat (first | apply Kd.R_alloc | apply Kd.R_drewN | apply Kd.R_drew)); exact HO103.out) hb); have n1_ := Aside0.mk (Kd.R_elder' (by (with_reducible repeat (first | apply Kd.R_alloc | apply Kd.R_drewN | apply Kd.R_drew)); exact HO107.out) (Kd.R_base ho0) hb); have n2_ := Aside0.mk (Kd.R_below (by (with_reducible repeat (first | apply Kd.R_alloc | apply Kd.R_drewN | apply Kd.R_drew)); exact HO110.out) hb); have n3_ := Aside0.mk (Kd.R_lower (Kd.R_new' (Kd.R_mono (ok' := fun k_ => True) ho0 (fun _ hk_ => trivial)) (Kd.R_lt (by (with_reducible repeat (first | apply Kd.R_alloc | apply Kd.R_drewN | apply Kd.R_drew)); exact HO107.out))) (below_size (by repeat (first | (with_reducible first | exact HB.out | apply below_alloc | apply pw_below_drewN | apply below_drew1) | exact HB.out)))); have n4_ := Aside0.mk (below_step (by repeat (first | (with_reducible first | exact HB.out | apply below_alloc | apply pw_below_drewN | apply below_drew1) | exact HB.out)) hb); clear HO103; clear HO107; clear HO110; clear HB; have HO103 := n0_; have HO107 := n1_; have HO110 := n2_; have HO113 := n3_; have HB := n4_; clear n0_ n1_ n2_ n3_ n4_; (try clear hb); (try clear hb2); (try clear hk); (try clear hi); (try clear ho0)))
    (try simp only [Act.put, List.setIfInBounds_toArray, List.set_cons_zero, List.set_cons_succ])
    go_cut [37] (fun v37 wc => ∃ (kq : Nat) (x37_6 : Bool), v37 = .bool x37_6 ∧ Aside0 (laws_FnExactTupleOf.j0 kq l0 t104 t105 t108 t111 t114 x37_6 = some r) ∧ Aside0 (kq ≤ k) ∧ Aside0 (Kd.R k28 28 wc w.heap.size (fun k_ => some k_ ≠ (v112 : Value).ownBlock) v106 t104) ∧ Aside0 (Kd.R (Kd.int .u8) 5 wc w.heap.size (fun _ => True) (.slice Ao12 t108.length co12) t108) ∧ Aside0 (Kd.R k28 28 wc w.heap.size (fun k_ => some k_ ≠ (v106 : Value).ownBlock) v112 t111) ∧ Aside0 (Below w.heap.size w wc))
    case first =>
      have H := HC7.out
      clear HC7
      replace H := Option.bind_eq_some_iff.mp H
      obtain ⟨t115, A140, H⟩ := H
      replace H : (if t115 = true then (laws_FnExactTupleOf.j0 k l0 t104 t105 t108 t111 t114 (t114 != t105)) else (laws_FnExactTupleOf.j0 k l0 t104 t105 t108 t111 t114 true)) = some r := H
      have A14 := Aside0.mk A140
      clear A140
      by_cases c15 : t115 = true
      · subst c15
        have H1 : (laws_FnExactTupleOf.j0 k l0 t104 t105 t108 t111 t114 (t114 != t105)) = some r := by rw [if_pos rfl] at H; exact H
        clear H
        have H := H1
        clear H1
        have H' := Aside0.mk H
        clear H
        obtain ⟨Ao16, co16, eo16⟩ := Kd.R_slice HO113.out
        subst eo16
        obtain ⟨Ao17, co17, eo17⟩ := Kd.R_slice HO107.out
        subst eo17
        go_wp2_with (first | ((with_reducible refine gate_callee (f := 31) rfl ?_); refine goesL_ (some 31) rfl rfl Try.func31 (by kernel_rfl) rfl #[.slice Ao16 t111.length co16, .slice Ao17 t104.length co17] rfl (by (try simp only [List.map_toArray, List.map_cons, List.map_nil]); first | done | rfl | (simp only [List.length_drop, List.length_take]; rfl)) ?_; (with_reducible refine (laws_eqValueS.calls k _ _ t111 _ _ t104 true _ ?side1 ?side2 ?side3 ?side4 A14.out).mono ?_); (case side1 => repeat (first | exact (Kd.R_reads' HO113.out).2.2 | (with_reducible refine Kd.C_alloc ?_ _) | (with_reducible refine Kd.C_drewN ?_ _) | (with_reducible refine Kd.C_drew ?_))); (case side2 => exact (Kd.R_reads' HO113.out).2.1); (case side3 => repeat (first | exact (Kd.R_reads' HO107.out).2.2 | (with_reducible refine Kd.C_alloc ?_ _) | (with_reducible refine Kd.C_drewN ?_ _) | (with_reducible refine Kd.C_drew ?_))); (case side4 => exact (Kd.R_reads' HO107.out).2.1); rintro e w18 ⟨rfl, hb⟩; refine ⟨_, rfl, ?_⟩; have n0_ := Aside0.mk (Kd.R_below (by (with_reducible repeat (first | apply Kd.R_alloc | apply Kd.R_drewN | apply Kd.R_drew)); exact HO103.out) hb); have n1_ := Aside0.mk (Kd.R_below (by (with_reducible repeat (first | apply Kd.R_alloc | apply Kd.R_drewN | apply Kd.R_drew)); exact HO107.out) hb); have n2_ := Aside0.mk (Kd.R_below (by (with_reducible repeat (first | apply Kd.R_alloc | apply Kd.R_drewN | apply Kd.R_drew)); exact HO110.out) hb); have n3_ := Aside0.mk (Kd.R_below (by (with_reducible repeat (first | apply Kd.R_alloc | apply Kd.R_drewN | apply Kd.R_drew)); exact HO113.out) hb); have n4_ := Aside0.mk (below_step (by repeat (first | (with_reducible first | exact HB.out | apply below_alloc | apply pw_below_drewN | apply below_drew1) | exact HB.out)) hb); clear HO103; clear HO107; clear HO110; clear HO113; clear HB; have HO103 := n0_; have HO107 := n1_; have HO110 := n2_; have HO113 := n3_; have HB := n4_; clear n0_ n1_ n2_ n3_ n4_; (try clear hb); (try clear hb2); (try clear hk); (try clear hi)))
        go_meet
        case rel => exact ⟨_, ((t114 != t105)), (by first | rfl | (simp; done) | (simp [*]; done)), H', ⟨by first | omega | exact Nat.le_refl _⟩, ⟨by (with_reducible repeat (first | apply Kd.R_alloc | apply Kd.R_drewN | apply Kd.R_drew)); exact Kd.R_mono HO107.out (fun _ hk => hk.2)⟩, ⟨by (with_reducible repeat (first | apply Kd.R_alloc | apply Kd.R_drewN | apply Kd.R_drew)); exact Kd.R_mono HO110.out (fun _ hk => trivial)⟩, ⟨by (with_reducible repeat (first | apply Kd.R_alloc | apply Kd.R_drewN | apply Kd.R_drew)); exact Kd.R_mono HO113.out (fun _ hk => hk.2)⟩, ⟨by repeat (first | (with_reducible first | exact HB.out | apply below_alloc | apply pw_below_drewN | apply below_drew1) | exact HB.out)⟩⟩
      · replace c15 := Bool.eq_false_iff.mpr c15
        subst c15
        have H1 : (laws_FnExactTupleOf.j0 k l0 t104 t105 t108 t111 t114 true) = some r := by rw [if_neg (show ¬ (false = true) by decide)] at H; exact H
        clear H
        have H := H1
        clear H1
        have H' := Aside0.mk H
        clear H
        obtain ⟨Ao19, co19, eo19⟩ := Kd.R_slice HO113.out
        subst eo19
        obtain ⟨Ao20, co20, eo20⟩ := Kd.R_slice HO107.out
        subst eo20
        go_wp2_with (first | ((with_reducible refine gate_callee (f := 31) rfl ?_); refine goesL_ (some 31) rfl rfl Try.func31 (by kernel_rfl) rfl #[.slice Ao19 t111.length co19, .slice Ao20 t104.length co20] rfl (by (try simp only [List.map_toArray, List.map_cons, List.map_nil]); first | done | rfl | (simp only [List.length_drop, List.length_take]; rfl)) ?_; (with_reducible refine (laws_eqValueS.calls k _ _ t111 _ _ t104 false _ ?side1 ?side2 ?side3 ?side4 A14.out).mono ?_); (case side1 => repeat (first | exact (Kd.R_reads' HO113.out).2.2 | (with_reducible refine Kd.C_alloc ?_ _) | (with_reducible refine Kd.C_drewN ?_ _) | (with_reducible refine Kd.C_drew ?_))); (case side2 => exact (Kd.R_reads' HO113.out).2.1); (case side3 => repeat (first | exact (Kd.R_reads' HO107.out).2.2 | (with_reducible refine Kd.C_alloc ?_ _) | (with_reducible refine Kd.C_drewN ?_ _) | (with_reducible refine Kd.C_drew ?_))); (case side4 => exact (Kd.R_reads' HO107.out).2.1); rintro e w21 ⟨rfl, hb⟩; refine ⟨_, rfl, ?_⟩; have n0_ := Aside0.mk (Kd.R_below (by (with_reducible repeat (first | apply Kd.R_alloc | apply Kd.R_drewN | apply Kd.R_drew)); exact HO103.out) hb); have n1_ := Aside0.mk (Kd.R_below (by (with_reducible repeat (first | apply Kd.R_alloc | apply Kd.R_drewN | apply Kd.R_drew)); exact HO107.out) hb); have n2_ := Aside0.mk (Kd.R_below (by (with_reducible repeat (first | apply Kd.R_alloc | apply Kd.R_drewN | apply Kd.R_drew)); exact HO110.out) hb); have n3_ := Aside0.mk (Kd.R_below (by (with_reducible repeat (first | apply Kd.R_alloc | apply Kd.R_drewN | apply Kd.R_drew)); exact HO113.out) hb); have n4_ := Aside0.mk (below_step (by repeat (first | (with_reducible first | exact HB.out | apply below_alloc | apply pw_below_drewN | apply below_drew1) | exact HB.out)) hb); clear HO103; clear HO107; clear HO110; clear HO113; clear HB; have HO103 := n0_; have HO107 := n1_; have HO110 := n2_; have HO113 := n3_; have HB := n4_; clear n0_ n1_ n2_ n3_ n4_; (try clear hb); (try clear hb2); (try clear hk); (try clear hi)))
        go_meet
        case rel => exact ⟨_, (true), (by first | rfl | (simp; done) | (simp [*]; done)), H', ⟨by first | omega | exact Nat.le_refl _⟩, ⟨by (with_reducible repeat (first | apply Kd.R_alloc | apply Kd.R_drewN | apply Kd.R_drew)); exact Kd.R_mono HO107.out (fun _ hk => hk.2)⟩, ⟨by (with_reducible repeat (first | apply Kd.R_alloc | apply Kd.R_drewN | apply Kd.R_drew)); exact Kd.R_mono HO110.out (fun _ hk => trivial)⟩, ⟨by (with_reducible repeat (first | apply Kd.R_alloc | apply Kd.R_drewN | apply Kd.R_drew)); exact Kd.R_mono HO113.out (fun _ hk => hk.2)⟩, ⟨by repeat (first | (with_reducible first | exact HB.out | apply below_alloc | apply pw_below_drewN | apply below_drew1) | exact HB.out)⟩⟩
    case rest =>
      clear HC7
      try clear c1
      try clear c2
      try clear c2b0
      try clear c2b1
      try clear p2
      try clear c3
      try clear c5
      try clear c14
      try clear c15
      obtain ⟨kq, x37_6, rfl, HA, HJ6, HO_3, HO_5, HO_6, HB⟩ := hcut
      cases kq with
      | zero => exact absurd HA.out (by simp [laws_FnExactTupleOf.j0])
      | succ kj6 =>
        have H := HA.out
        clear HA
        simp only [laws_FnExactTupleOf.j0] at H
        by_cases c22 : x37_6 = true
        · subst c22
          have H1 : (some false) = some r := by rw [if_pos rfl] at H; exact H
          clear H
          have H := H1
          clear H1
          obtain rfl := Option.some.inj H
          go_wp2
          go_ret
          exact ⟨by first | rfl | (simp [errW_none, errW_some] <;> rfl) | (simp [*, errW_none, errW_some] <;> rfl), by repeat (first | (with_reducible first | exact HB.out | apply below_alloc | apply pw_below_drewN | apply below_drew1) | exact HB.out)⟩
        · replace c22 := Bool.eq_false_iff.mpr c22
          subst c22
          have H1 : ((laws_toByteS.f kj6 l0).bind fun t116 => ((laws_eqByteS.f kj6 t108 t116).bind fun t119 => (if t119 = true then ((laws_markByteS.f kj6 t108 1).bind fun bt120 => (if bt120.1 < 0 then (laws_FnExactTupleOf.j1 kj6 l0 t104 t105 t111 true) else ((laws_eqValueS.f kj6 t111 t104).bind fun t122 => (if t122 = true then (laws_FnExactTupleOf.j1 kj6 l0 t104 t105 t111 (t114 != t105)) else (laws_FnExactTupleOf.j1 kj6 l0 t104 t105 t111 true))))) else (some false)))) = some r := by rw [if_neg (show ¬ (false = true) by decide)] at H; exact H
          clear H
          have H := H1
          clear H1
          replace H := Option.bind_eq_some_iff.mp H
          obtain ⟨t116, A230, H⟩ := H
          replace H : ((laws_eqByteS.f kj6 t108 t116).bind fun t119 => (if t119 = true then ((laws_markByteS.f kj6 t108 1).bind fun bt120 => (if bt120.1 < 0 then (laws_FnExactTupleOf.j1 kj6 l0 t104 t105 t111 true) else ((laws_eqValueS.f kj6 t111 t104).bind fun t122 => (if t122 = true then (laws_FnExactTupleOf.j1 kj6 l0 t104 t105 t111 (t114 != t105)) else (laws_FnExactTupleOf.j1 kj6 l0 t104 t105 t111 true))))) else (some false))) = some r := H
          have A23 := Aside0.mk A230
          clear A230
          replace H := Option.bind_eq_some_iff.mp H
          obtain ⟨t119, A240, H⟩ := H
          replace H : (if t119 = true then ((laws_markByteS.f kj6 t108 1).bind fun bt120 => (if bt120.1 < 0 then (laws_FnExactTupleOf.j1 kj6 l0 t104 t105 t111 true) else ((laws_eqValueS.f kj6 t111 t104).bind fun t122 => (if t122 = true then (laws_FnExactTupleOf.j1 kj6 l0 t104 t105 t111 (t114 != t105)) else (laws_FnExactTupleOf.j1 kj6 l0 t104 t105 t111 true))))) else (some false)) = some r := H
          have A24 := Aside0.mk A240
          clear A240
          by_cases c25 : t119 = true
          · subst c25
            have H1 : ((laws_markByteS.f kj6 t108 1).bind fun bt120 => (if bt120.1 < 0 then (laws_FnExactTupleOf.j1 kj6 l0 t104 t105 t111 true) else ((laws_eqValueS.f kj6 t111 t104).bind fun t122 => (if t122 = true then (laws_FnExactTupleOf.j1 kj6 l0 t104 t105 t111 (t114 != t105)) else (laws_FnExactTupleOf.j1 kj6 l0 t104 t105 t111 true))))) = some r := by rw [if_pos rfl] at H; exact H
            clear H
            have H := H1
            clear H1
            replace H := Option.bind_eq_some_iff.mp H
            obtain ⟨⟨t120, t121⟩, A260, H⟩ := H
            replace H : (if t120 < 0 then (laws_FnExactTupleOf.j1 kj6 l0 t104 t105 t111 true) else ((laws_eqValueS.f kj6 t111 t104).bind fun t122 => (if t122 = true then (laws_FnExactTupleOf.j1 kj6 l0 t104 t105 t111 (t114 != t105)) else (laws_FnExactTupleOf.j1 kj6 l0 t104 t105 t111 true)))) = some r := H
            have A26 := Aside0.mk A260
            clear A260
            have HC27 := Aside0.mk H
            clear H
            go_upto_region 12 with (first | ((with_reducible refine gate_callee (f := 51) rfl ?_); refine goesL_ (some 40) rfl rfl Try.func51 (by kernel_rfl) rfl #[.slice A0 l0.length c0] rfl (by (try simp only [List.map_toArray, List.map_cons, List.map_nil]); first | done | rfl | (simp only [List.length_drop, List.length_take]; rfl)) ?_; (with_reducible refine (laws_toByteS.calls kj6 _ _ l0 t116 _ ?side1 ?side2 A23.out).mono ?_); (case side1 => repeat (first | exact (Kd.C_below HR0.out HB.out) | (with_reducible refine Kd.C_alloc ?_ _) | (with_reducible refine Kd.C_drewN ?_ _) | (with_reducible refine Kd.C_drew ?_))); (case side2 => exact HC0.out); rintro e w28 ⟨v117, rfl, ho0, hb⟩; refine ⟨_, rfl, ?_⟩; have n0_ := Aside0.mk (Kd.R_below (by (with_reducible repeat (first | apply Kd.R_alloc | apply Kd.R_drewN | apply Kd.R_drew)); exact HO_3.out) hb); have n1_ := Aside0.mk (Kd.R_elder' (by (with_reducible repeat (first | apply Kd.R_alloc | apply Kd.R_drewN | apply Kd.R_drew)); exact HO_5.out) (Kd.R_base ho0) hb); have n2_ := Aside0.mk (Kd.R_below (by (with_reducible repeat (first | apply Kd.R_alloc | apply Kd.R_drewN | apply Kd.R_drew)); exact HO_6.out) hb); have n3_ := Aside0.mk (Kd.R_lower (Kd.R_new' ho0 (Kd.R_lt (by (with_reducible repeat (first | apply Kd.R_alloc | apply Kd.R_drewN | apply Kd.R_drew)); exact HO_5.out))) (below_size (by repeat (first | (with_reducible first | exact HB.out | apply below_alloc | apply pw_below_drewN | apply below_drew1) | exact HB.out)))); have n4_ := Aside0.mk (below_step (by repeat (first | (with_reducible first | exact HB.out | apply below_alloc | apply pw_below_drewN | apply below_drew1) | exact HB.out)) hb); clear HO_3; clear HO_5; clear HO_6; clear HB; have HO_3 := n0_; have HO_5 := n1_; have HO_6 := n2_; have HO118 := n3_; have HB := n4_; clear n0_ n1_ n2_ n3_ n4_; (try clear hb); (try clear hb2); (try clear hk); (try clear hi); (try clear ho0); obtain ⟨Ao29, co29, eo29⟩ := Kd.R_slice HO118.out; subst eo29) | ((with_reducible refine gate_callee (f := 45) rfl ?_); refine goesL_ (some 41) rfl rfl Try.func45 (by kernel_rfl) rfl #[.slice Ao12 t108.length co12, .slice Ao29 t116.length co29] rfl (by (try simp only [List.map_toArray, List.map_cons, List.map_nil]); first | done | rfl | (simp only [List.length_drop, List.length_take]; rfl)) ?_; (with_reducible refine (laws_eqByteS.calls kj6 _ _ t108 _ _ t116 true _ ?side1 ?side2 ?side3 ?side4 A24.out).mono ?_); (case side1 => repeat (first | exact (Kd.R_reads' HO_5.out).2.2 | (with_reducible refine Kd.C_alloc ?_ _) | (with_reducible refine Kd.C_drewN ?_ _) | (with_reducible refine Kd.C_drew ?_))); (case side2 => exact (Kd.R_reads' HO_5.out).2.1); (case side3 => repeat (first | exact (Kd.R_reads' HO118.out).2.2 | (with_reducible refine Kd.C_alloc ?_ _) | (with_reducible refine Kd.C_drewN ?_ _) | (with_reducible refine Kd.C_drew ?_))); (case side4 => exact (Kd.R_reads' HO118.out).2.1); rintro e w' ⟨rfl, ⟨nd, rfl⟩⟩; refine ⟨_, rfl, ?_⟩) | ((with_reducible refine gate_callee (f := 46) rfl ?_); refine goesL_ (some 45) rfl rfl Try.func46 (by kernel_rfl) rfl #[.slice Ao12 t108.length co12, .int .i64 1] rfl (by (try simp only [List.map_toArray, List.map_cons, List.map_nil]); first | done | rfl | (simp only [List.length_drop, List.length_take]; rfl)) ?_; (with_reducible refine (laws_markByteS.calls kj6 (fun k_ => some k_ = (.slice Ao12 t108.length co12 : Value).ownBlock) (.slice Ao12 t108.length co12) t108 1 t120 t121 w _ ?side1 ?side2 A26.out).mono ?_); (case side1 => repeat (first | (with_reducible first | exact HB.out | apply below_alloc | apply pw_below_drewN | apply below_drew1) | exact HB.out)); (case side2 => exact Kd.R_tight rfl HO_5.out); rintro e w30 ⟨rfl, hy0, hb, hkp⟩; refine ⟨_, rfl, ?_⟩; have n0_ := Aside0.mk (Kd.R_mono (ok' := fun k_ => some k_ ≠ (v112 : Value).ownBlock) (Kd.R_keptB ((Kd.R_apart' HO_3.out (Kd.R_typed HO_5.out) (by decide))) hkp (fun k_ hk_ hs_ => (hk_.2) hs_)) (fun k_ hk_ => hk_.1.1)); have n1_ := Aside0.mk (Kd.R_reok rfl hy0 (fun k_ e_ => HO_5.out.1 k_ e_)); have n2_ := Aside0.mk (Kd.R_mono (ok' := fun k_ => some k_ ≠ (v106 : Value).ownBlock) (Kd.R_keptB ((Kd.R_apart' HO_6.out (Kd.R_typed HO_5.out) (by decide))) hkp (fun k_ hk_ hs_ => (hk_.2) hs_)) (fun k_ hk_ => hk_.1.1)); have n3_ := Aside0.mk (Kd.R_mono (ok' := fun k_ => some k_ ≠ (.slice Ao12 t108.length co12 : Value).ownBlock) (Kd.R_keptB (HO118.out) hkp (fun k_ hk_ hs_ => (hk_.2) hs_)) (fun k_ hk_ => hk_.1.2)); have n4_ := Aside0.mk (hb); clear HO_3; clear HO_5; clear HO_6; clear HO118; clear HB; have HO_3 := n0_; have HO_5 := n1_; have HO_6 := n2_; have HO118 := n3_; have HB := n4_; clear n0_ n1_ n2_ n3_ n4_; (try clear hb); (try clear hkp); (try clear hy0)))
            (try simp only [Act.put, List.setIfInBounds_toArray, List.set_cons_zero, List.set_cons_succ])
            go_cut [58] (fun v58 wc => ∃ (kq : Nat) (x58_26 : Bool), v58 = .bool x58_26 ∧ Aside0 (laws_FnExactTupleOf.j1 kq l0 t104 t105 t111 x58_26 = some r) ∧ Aside0 (kq ≤ kj6) ∧ Aside0 (Kd.R k28 28 wc w.heap.size (fun k_ => some k_ ≠ (v112 : Value).ownBlock) v106 t104) ∧ Aside0 (Kd.R k28 28 wc w.heap.size (fun k_ => some k_ ≠ (v106 : Value).ownBlock) v112 t111) ∧ Aside0 (Below w.heap.size w wc))
            case first =>
              have H := HC27.out
              clear HC27
              by_cases c31 : t120 < 0
              · rw [if_pos c31] at H
                have c31b0 : decide (t120 < 0) = true := decide_eq_true c31
                clear c31
                (first | rw [c31b0] | (simp only [i64_w, i32_w]; rw [c31b0]) | skip)
                have H' := Aside0.mk H
                clear H
                go_wp2
                go_meet
                case rel => exact ⟨_, (true), (by first | rfl | (simp; done) | (simp [*]; done)), H', ⟨by have := HJ6.out; first | omega | exact Nat.le_refl _⟩, ⟨by (with_reducible repeat (first | apply Kd.R_alloc | apply Kd.R_drewN | apply Kd.R_drew)); exact HO_3.out⟩, ⟨by (with_reducible repeat (first | apply Kd.R_alloc | apply Kd.R_drewN | apply Kd.R_drew)); exact HO_6.out⟩, ⟨by repeat (first | (with_reducible first | exact HB.out | apply below_alloc | apply pw_below_drewN | apply below_drew1) | exact HB.out)⟩⟩
              · rw [if_neg c31] at H
                have c31b0 : decide (t120 < 0) = false := decide_eq_false c31
                clear c31
                (first | rw [c31b0] | (simp only [i64_w, i32_w]; rw [c31b0]) | skip)
                replace H := Option.bind_eq_some_iff.mp H
                obtain ⟨t122, A320, H⟩ := H
                replace H : (if t122 = true then (laws_FnExactTupleOf.j1 kj6 l0 t104 t105 t111 (t114 != t105)) else (laws_FnExactTupleOf.j1 kj6 l0 t104 t105 t111 true)) = some r := H
                have A32 := Aside0.mk A320
                clear A320
                by_cases c33 : t122 = true
                · subst c33
                  have H1 : (laws_FnExactTupleOf.j1 kj6 l0 t104 t105 t111 (t114 != t105)) = some r := by rw [if_pos rfl] at H; exact H
                  clear H
                  have H := H1
                  clear H1
                  have H' := Aside0.mk H
                  clear H
                  obtain ⟨Ao34, co34, eo34⟩ := Kd.R_slice HO_6.out
                  subst eo34
                  obtain ⟨Ao35, co35, eo35⟩ := Kd.R_slice HO_3.out
                  subst eo35
                  go_wp2_with (first | (go_at_call 31; (with_reducible refine (laws_eqValueS.calls kj6 _ _ t111 _ _ t104 true _ ?side1 ?side2 ?side3 ?side4 A32.out).mono ?_); (case side1 => repeat (first | exact (Kd.R_reads' HO_6.out).2.2 | (with_reducible refine Kd.C_alloc ?_ _) | (with_reducible refine Kd.C_drewN ?_ _) | (with_reducible refine Kd.C_drew ?_))); (case side2 => exact (Kd.R_reads' HO_6.out).2.1); (case side3 => repeat (first | exact (Kd.R_reads' HO_3.out).2.2 | (with_reducible refine Kd.C_alloc ?_ _) | (with_reducible refine Kd.C_drewN ?_ _) | (with_reducible refine Kd.C_drew ?_))); (case side4 => exact (Kd.R_reads' HO_3.out).2.1); rintro e w36 ⟨rfl, hb⟩; have n0_ := Aside0.mk (Kd.R_below (by (with_reducible repeat (first | apply Kd.R_alloc | apply Kd.R_drewN | apply Kd.R_drew)); exact HO_3.out) hb); have n1_ := Aside0.mk (Kd.R_below (by (with_reducible repeat (first | apply Kd.R_alloc | apply Kd.R_drewN | apply Kd.R_drew)); exact HO_5.out) hb); have n2_ := Aside0.mk (Kd.R_below (by (with_reducible repeat (first | apply Kd.R_alloc | apply Kd.R_drewN | apply Kd.R_drew)); exact HO_6.out) hb); have n3_ := Aside0.mk (Kd.R_below (by (with_reducible repeat (first | apply Kd.R_alloc | apply Kd.R_drewN | apply Kd.R_drew)); exact HO118.out) hb); have n4_ := Aside0.mk (below_step (by repeat (first | (with_reducible first | exact HB.out | apply below_alloc | apply pw_below_drewN | apply below_drew1) | exact HB.out)) hb); clear HO_3; clear HO_5; clear HO_6; clear HO118; clear HB; have HO_3 := n0_; have HO_5 := n1_; have HO_6 := n2_; have HO118 := n3_; have HB := n4_; clear n0_ n1_ n2_ n3_ n4_; (try clear hb); (try clear hb2); (try clear hk); (try clear hi)))
                  go_meet
                  case rel => exact ⟨_, ((t114 != t105)), (by first | rfl | (simp; done) | (simp [*]; done)), H', ⟨by have := HJ6.out; first | omega | exact Nat.le_refl _⟩, ⟨by (with_reducible repeat (first | apply Kd.R_alloc | apply Kd.R_drewN | apply Kd.R_drew)); exact HO_3.out⟩, ⟨by (with_reducible repeat (first | apply Kd.R_alloc | apply Kd.R_drewN | apply Kd.R_drew)); exact HO_6.out⟩, ⟨by repeat (first | (with_reducible first | exact HB.out | apply below_alloc | apply pw_below_drewN | apply below_drew1) | exact HB.out)⟩⟩
                · replace c33 := Bool.eq_false_iff.mpr c33
                  subst c33
                  have H1 : (laws_FnExactTupleOf.j1 kj6 l0 t104 t105 t111 true) = some r := by rw [if_neg (show ¬ (false = true) by decide)] at H; exact H
                  clear H
                  have H := H1
                  clear H1
                  have H' := Aside0.mk H
                  clear H
                  obtain ⟨Ao37, co37, eo37⟩ := Kd.R_slice HO_6.out
                  subst eo37
                  obtain ⟨Ao38, co38, eo38⟩ := Kd.R_slice HO_3.out
                  subst eo38
                  go_wp2_with (first | (go_at_call 31; (with_reducible refine (laws_eqValueS.calls kj6 _ _ t111 _ _ t104 false _ ?side1 ?side2 ?side3 ?side4 A32.out).mono ?_); (case side1 => repeat (first | exact (Kd.R_reads' HO_6.out).2.2 | (with_reducible refine Kd.C_alloc ?_ _) | (with_reducible refine Kd.C_drewN ?_ _) | (with_reducible refine Kd.C_drew ?_))); (case side2 => exact (Kd.R_reads' HO_6.out).2.1); (case side3 => repeat (first | exact (Kd.R_reads' HO_3.out).2.2 | (with_reducible refine Kd.C_alloc ?_ _) | (with_reducible refine Kd.C_drewN ?_ _) | (with_reducible refine Kd.C_drew ?_))); (case side4 => exact (Kd.R_reads' HO_3.out).2.1); rintro e w39 ⟨rfl, hb⟩; have n0_ := Aside0.mk (Kd.R_below (by (with_reducible repeat (first | apply Kd.R_alloc | apply Kd.R_drewN | apply Kd.R_drew)); exact HO_3.out) hb); have n1_ := Aside0.mk (Kd.R_below (by (with_reducible repeat (first | apply Kd.R_alloc | apply Kd.R_drewN | apply Kd.R_drew)); exact HO_5.out) hb); have n2_ := Aside0.mk (Kd.R_below (by (with_reducible repeat (first | apply Kd.R_alloc | apply Kd.R_drewN | apply Kd.R_drew)); exact HO_6.out) hb); have n3_ := Aside0.mk (Kd.R_below (by (with_reducible repeat (first | apply Kd.R_alloc | apply Kd.R_drewN | apply Kd.R_drew)); exact HO118.out) hb); have n4_ := Aside0.mk (below_step (by repeat (first | (with_reducible first | exact HB.out | apply below_alloc | apply pw_below_drewN | apply below_drew1) | exact HB.out)) hb); clear HO_3; clear HO_5; clear HO_6; clear HO118; clear HB; have HO_3 := n0_; have HO_5 := n1_; have HO_6 := n2_; have HO118 := n3_; have HB := n4_; clear n0_ n1_ n2_ n3_ n4_; (try clear hb); (try clear hb2); (try clear hk); (try clear hi)))
                  go_meet
                  case rel => exact ⟨_, (true), (by first | rfl | (simp; done) | (simp [*]; done)), H', ⟨by have := HJ6.out; first | omega | exact Nat.le_refl _⟩, ⟨by (with_reducible repeat (first | apply Kd.R_alloc | apply Kd.R_drewN | apply Kd.R_drew)); exact HO_3.out⟩, ⟨by (with_reducible repeat (first | apply Kd.R_alloc | apply Kd.R_drewN | apply Kd.R_drew)); exact HO_6.out⟩, ⟨by repeat (first | (with_reducible first | exact HB.out | apply below_alloc | apply pw_below_drewN | apply below_drew1) | exact HB.out)⟩⟩
            case rest =>
              clear HC27
              try clear c1
              try clear c2
              try clear c2b0
              try clear c2b1
              try clear p2
              try clear c3
              try clear c4
              try clear c5
              try clear c14
              try clear c15
              try clear c22
              try clear c25
              try clear c31
              try clear c31b0
              try clear c33
              try clear p2
              obtain ⟨kq, x58_26, rfl, HA, HJ26, HO_3, HO_6, HB⟩ := hcut
              cases kq with
              | zero => exact absurd HA.out (by simp [laws_FnExactTupleOf.j1])
              | succ kj26 =>
                have H := HA.out
                clear HA
                simp only [laws_FnExactTupleOf.j1] at H
                by_cases c40 : x58_26 = true
                · subst c40
                  have H1 : (some false) = some r := by rw [if_pos rfl] at H; exact H
                  clear H
                  have H := H1
                  clear H1
                  obtain rfl := Option.some.inj H
                  go_wp2
                  go_ret
                  exact ⟨by first | rfl | (simp [errW_none, errW_some] <;> rfl) | (simp [*, errW_none, errW_some] <;> rfl), by repeat (first | (with_reducible first | exact HB.out | apply below_alloc | apply pw_below_drewN | apply below_drew1) | exact HB.out)⟩
                · replace c40 := Bool.eq_false_iff.mpr c40
                  subst c40
                  have H1 : ((laws_markValueS.f kj26 t111 1).bind fun bt123 => ((laws_heldValueS.f kj26 bt123.2 1).bind fun t125 => (if t125 < 0 then (some false) else (if t125 = bt123.1 then ((laws_toByteS.f kj26 l0).bind fun t126 => ((impl_TupleOf.f kj26 t126).bind fun bt129 => ((laws_eqValueS.f kj26 bt129.1 t104).bind fun t133 => (if t133 = true then (laws_FnExactTupleOf.j2 kj26 bt123.2 bt123.1 (bt129.2 != t105)) else (laws_FnExactTupleOf.j2 kj26 bt123.2 bt123.1 true))))) else (some false))))) = some r := by rw [if_neg (show ¬ (false = true) by decide)] at H; exact H
                  clear H
                  have H := H1
                  clear H1
                  replace H := Option.bind_eq_some_iff.mp H
                  obtain ⟨⟨t123, t124⟩, A410, H⟩ := H
                  replace H : ((laws_heldValueS.f kj26 t124 1).bind fun t125 => (if t125 < 0 then (some false) else (if t125 = t123 then ((laws_toByteS.f kj26 l0).bind fun t126 => ((impl_TupleOf.f kj26 t126).bind fun bt129 => ((laws_eqValueS.f kj26 bt129.1 t104).bind fun t133 => (if t133 = true then (laws_FnExactTupleOf.j2 kj26 t124 t123 (bt129.2 != t105)) else (laws_FnExactTupleOf.j2 kj26 t124 t123 true))))) else (some false)))) = some r := H
                  have A41 := Aside0.mk A410
                  clear A410
                  replace H := Option.bind_eq_some_iff.mp H
                  obtain ⟨t125, A420, H⟩ := H
                  replace H : (if t125 < 0 then (some false) else (if t125 = t123 then ((laws_toByteS.f kj26 l0).bind fun t126 => ((impl_TupleOf.f kj26 t126).bind fun bt129 => ((laws_eqValueS.f kj26 bt129.1 t104).bind fun t133 => (if t133 = true then (laws_FnExactTupleOf.j2 kj26 t124 t123 (bt129.2 != t105)) else (laws_FnExactTupleOf.j2 kj26 t124 t123 true))))) else (some false))) = some r := H
                  have A42 := Aside0.mk A420
                  clear A420
                  by_cases c43 : t125 < 0
                  · rw [if_pos c43] at H
                    have c43b0 : decide (t125 < 0) = true := decide_eq_true c43
                    clear c43
                    obtain rfl := Option.some.inj H
                    obtain ⟨Ao44, co44, eo44⟩ := Kd.R_slice HO_6.out
                    subst eo44
                    go_wp2_with (first | ((with_reducible refine gate_callee (f := 40) rfl ?_); refine goesL_ (some 61) rfl rfl Try.func40 (by kernel_rfl) rfl #[.slice Ao44 t111.length co44, .int .i64 1] rfl (by (try simp only [List.map_toArray, List.map_cons, List.map_nil]); first | done | rfl | (simp only [List.length_drop, List.length_take]; rfl)) ?_; (with_reducible refine (laws_markValueS.calls kj26 (fun k_ => some k_ = (.slice Ao44 t111.length co44 : Value).ownBlock) (.slice Ao44 t111.length co44) t111 1 t123 t124 w _ ?side1 ?side2 A41.out).mono ?_); (case side1 => repeat (first | (with_reducible first | exact HB.out | apply below_alloc | apply pw_below_drewN | apply below_drew1) | exact HB.out)); (case side2 => exact Kd.R_tight rfl HO_6.out); rintro e w45 ⟨rfl, hy0, hb, hkp⟩; refine ⟨_, rfl, ?_⟩; have n0_ := Aside0.mk (Kd.R_mono (ok' := fun k_ => some k_ ≠ (.slice Ao44 t111.length co44 : Value).ownBlock) (Kd.R_keptB (HO_3.out) hkp (fun k_ hk_ hs_ => (hk_) hs_)) (fun k_ hk_ => hk_.1)); have n1_ := Aside0.mk (Kd.R_reok rfl hy0 (fun k_ e_ => HO_6.out.1 k_ e_)); have n2_ := Aside0.mk (hb); clear HO_3; clear HO_6; clear HB; have HO_3 := n0_; have HO_6 := n1_; have HB := n2_; clear n0_ n1_ n2_; (try clear hb); (try clear hkp); (try clear hy0)) | ((with_reducible refine gate_callee (f := 42) rfl ?_); refine goesL_ (some 64) rfl rfl Try.func42 (by kernel_rfl) rfl #[.slice Ao44 t124.length co44, .int .i64 1] rfl (by (try simp only [List.map_toArray, List.map_cons, List.map_nil]); first | done | (rw [show t124.length = t111.length from (Kd.R_reads' HO_6.out).1.symm] <;> rfl) | rfl | (simp only [List.length_drop, List.length_take]; rfl)) ?_; (with_reducible refine (laws_heldValueS.calls kj26 _ _ t124 1 t125 _ ?side1 ?side2 A42.out).mono ?_); (case side1 => repeat (first | exact (Kd.R_reads' HO_6.out).2.2 | (with_reducible refine Kd.C_alloc ?_ _) | (with_reducible refine Kd.C_drewN ?_ _) | (with_reducible refine Kd.C_drew ?_))); (case side2 => rw [show t124.length = t111.length from (Kd.R_reads' HO_6.out).1.symm]; exact (Kd.R_reads' HO_6.out).2.1); rintro e w46 ⟨rfl, hb⟩; refine ⟨_, rfl, ?_⟩; have n0_ := Aside0.mk (Kd.R_below (by (with_reducible repeat (first | apply Kd.R_alloc | apply Kd.R_drewN | apply Kd.R_drew)); exact HO_3.out) hb); have n1_ := Aside0.mk (Kd.R_below (by (with_reducible repeat (first | apply Kd.R_alloc | apply Kd.R_drewN | apply Kd.R_drew)); exact HO_6.out) hb); have n2_ := Aside0.mk (below_step (by repeat (first | (with_reducible first | exact HB.out | apply below_alloc | apply pw_below_drewN | apply below_drew1) | exact HB.out)) hb); clear HO_3; clear HO_6; clear HB; have HO_3 := n0_; have HO_6 := n1_; have HB := n2_; clear n0_ n1_ n2_; (try clear hb); (try clear hb2); (try clear hk); (try clear hi)))
                    go_ret
                    exact ⟨by first | rfl | (simp [errW_none, errW_some] <;> rfl) | (simp [*, errW_none, errW_some] <;> rfl), by repeat (first | (with_reducible first | exact HB.out | apply below_alloc | apply pw_below_drewN | apply below_drew1) | exact HB.out)⟩
                  · rw [if_neg c43] at H
                    have c43b0 : decide (t125 < 0) = false := decide_eq_false c43
                    clear c43
                    by_cases c47 : t125 = t123
                    · rw [if_pos c47] at H
                      have c47b0 : (t125 == t123) = true := beq_iff_eq.mpr c47
                      have c47b1 : (t125 != t123) = false := bne_eq_false_iff_eq.mpr c47
                      clear c47
                      replace H := Option.bind_eq_some_iff.mp H
                      obtain ⟨t126, A480, H⟩ := H
                      replace H : ((impl_TupleOf.f kj26 t126).bind fun bt129 => ((laws_eqValueS.f kj26 bt129.1 t104).bind fun t133 => (if t133 = true then (laws_FnExactTupleOf.j2 kj26 t124 t123 (bt129.2 != t105)) else (laws_FnExactTupleOf.j2 kj26 t124 t123 true)))) = some r := H
                      have A48 := Aside0.mk A480
                      clear A480
                      replace H := Option.bind_eq_some_iff.mp H
                      obtain ⟨⟨t129, t132⟩, A490, H⟩ := H
                      replace H : ((laws_eqValueS.f kj26 t129 t104).bind fun t133 => (if t133 = true then (laws_FnExactTupleOf.j2 kj26 t124 t123 (t132 != t105)) else (laws_FnExactTupleOf.j2 kj26 t124 t123 true))) = some r := H
                      have A49 := Aside0.mk A490
                      clear A490
                      have HC50 := Aside0.mk H
                      clear H
                      obtain ⟨Ao51, co51, eo51⟩ := Kd.R_slice HO_6.out
                      subst eo51
                      go_upto_region 23 with (first | ((with_reducible refine gate_callee (f := 40) rfl ?_); refine goesL_ (some 61) rfl rfl Try.func40 (by kernel_rfl) rfl #[.slice Ao51 t111.length co51, .int .i64 1] rfl (by (try simp only [List.map_toArray, List.map_cons, List.map_nil]); first | done | rfl | (simp only [List.length_drop, List.length_take]; rfl)) ?_; (with_reducible refine (laws_markValueS.calls kj26 (fun k_ => some k_ = (.slice Ao51 t111.length co51 : Value).ownBlock) (.slice Ao51 t111.length co51) t111 1 t123 t124 w _ ?side1 ?side2 A41.out).mono ?_); (case side1 => repeat (first | (with_reducible first | exact HB.out | apply below_alloc | apply pw_below_drewN | apply below_drew1) | exact HB.out)); (case side2 => exact Kd.R_tight rfl HO_6.out); rintro e w52 ⟨rfl, hy0, hb, hkp⟩; refine ⟨_, rfl, ?_⟩; have n0_ := Aside0.mk (Kd.R_mono (ok' := fun k_ => some k_ ≠ (.slice Ao51 t111.length co51 : Value).ownBlock) (Kd.R_keptB (HO_3.out) hkp (fun k_ hk_ hs_ => (hk_) hs_)) (fun k_ hk_ => hk_.1)); have n1_ := Aside0.mk (Kd.R_reok rfl hy0 (fun k_ e_ => HO_6.out.1 k_ e_)); have n2_ := Aside0.mk (hb); clear HO_3; clear HO_6; clear HB; have HO_3 := n0_; have HO_6 := n1_; have HB := n2_; clear n0_ n1_ n2_; (try clear hb); (try clear hkp); (try clear hy0)) | ((with_reducible refine gate_callee (f := 42) rfl ?_); refine goesL_ (some 64) rfl rfl Try.func42 (by kernel_rfl) rfl #[.slice Ao51 t124.length co51, .int .i64 1] rfl (by (try simp only [List.map_toArray, List.map_cons, List.map_nil]); first | done | (rw [show t124.length = t111.length from (Kd.R_reads' HO_6.out).1.symm] <;> rfl) | rfl | (simp only [List.length_drop, List.length_take]; rfl)) ?_; (with_reducible refine (laws_heldValueS.calls kj26 _ _ t124 1 t125 _ ?side1 ?side2 A42.out).mono ?_); (case side1 => repeat (first | exact (Kd.R_reads' HO_6.out).2.2 | (with_reducible refine Kd.C_alloc ?_ _) | (with_reducible refine Kd.C_drewN ?_ _) | (with_reducible refine Kd.C_drew ?_))); (case side2 => rw [show t124.length = t111.length from (Kd.R_reads' HO_6.out).1.symm]; exact (Kd.R_reads' HO_6.out).2.1); rintro e w53 ⟨rfl, hb⟩; refine ⟨_, rfl, ?_⟩; have n0_ := Aside0.mk (Kd.R_below (by (with_reducible repeat (first | apply Kd.R_alloc | apply Kd.R_drewN | apply Kd.R_drew)); exact HO_3.out) hb); have n1_ := Aside0.mk (Kd.R_below (by (with_reducible repeat (first | apply Kd.R_alloc | apply Kd.R_drewN | apply Kd.R_drew)); exact HO_6.out) hb); have n2_ := Aside0.mk (below_step (by repeat (first | (with_reducible first | exact HB.out | apply below_alloc | apply pw_below_drewN | apply below_drew1) | exact HB.out)) hb); clear HO_3; clear HO_6; clear HB; have HO_3 := n0_; have HO_6 := n1_; have HB := n2_; clear n0_ n1_ n2_; (try clear hb); (try clear hb2); (try clear hk); (try clear hi)) | ((with_reducible refine gate_callee (f := 51) rfl ?_); refine goesL_ (some 72) rfl rfl Try.func51 (by kernel_rfl) rfl #[.slice A0 l0.length c0] rfl (by (try simp only [List.map_toArray, List.map_cons, List.map_nil]); first | done | rfl | (simp only [List.length_drop, List.length_take]; rfl)) ?_; (with_reducible refine (laws_toByteS.calls kj26 _ _ l0 t126 _ ?side1 ?side2 A48.out).mono ?_); (case side1 => repeat (first | exact (Kd.C_below HR0.out HB.out) | (with_reducible refine Kd.C_alloc ?_ _) | (with_reducible refine Kd.C_drewN ?_ _) | (with_reducible refine Kd.C_drew ?_))); (case side2 => exact HC0.out); rintro e w54 ⟨v127, rfl, ho0, hb⟩; refine ⟨_, rfl, ?_⟩; have n0_ := Aside0.mk (Kd.R_below (by (with_reducible repeat (first | apply Kd.R_alloc | apply Kd.R_drewN | apply Kd.R_drew)); exact HO_3.out) hb); have n1_ := Aside0.mk (Kd.R_below (by (with_reducible repeat (first | apply Kd.R_alloc | apply Kd.R_drewN | apply Kd.R_drew)); exact HO_6.out) hb); have n2_ := Aside0.mk (Kd.R_lower ho0 (below_size (by repeat (first | (with_reducible first | exact HB.out | apply below_alloc | apply pw_below_drewN | apply below_drew1) | exact HB.out)))); have n3_ := Aside0.mk (below_step (by repeat (first | (with_reducible first | exact HB.out | apply below_alloc | apply pw_below_drewN | apply below_drew1) | exact HB.out)) hb); clear HO_3; clear HO_6; clear HB; have HO_3 := n0_; have HO_6 := n1_; have HO128 := n2_; have HB := n3_; clear n0_ n1_ n2_ n3_; (try clear hb); (try clear hb2); (try clear hk); (try clear hi); (try clear ho0); obtain ⟨Ao55, co55, eo55⟩ := Kd.R_slice HO128.out; subst eo55) | ((with_reducible refine gate_callee (f := 52) rfl ?_); refine goesL_ (some 73) rfl rfl Try.func52 (by kernel_rfl) rfl #[.slice Ao55 t126.length co55] rfl (by (try simp only [List.map_toArray, List.map_cons, List.map_nil]); first | done | rfl | (simp only [List.length_drop, List.length_take]; rfl)) ?_; (with_reducible refine (impl_TupleOf.calls kj26 (fun k_ => some k_ = (.slice Ao55 t126.length co55 : Value).ownBlock) _ _ t126 t129 t132 _ ?side1 A49.out).mono ?_); (case side1 => exact Kd.R_V (Kd.R_tight rfl (Kd.R_apart' (Kd.R_apart' (HO128.out) (Kd.R_typed HO_3.out) (by decide)) (Kd.R_typed HO_6.out) (by decide)))); rintro e w56 ⟨v130, rfl, ho0, hb⟩; refine ⟨_, rfl, ?_⟩; have n0_ := Aside0.mk (Kd.R_elder' (by (with_reducible repeat (first | apply Kd.R_alloc | apply Kd.R_drewN | apply Kd.R_drew)); exact HO_3.out) (Kd.R_base ho0) hb); have n1_ := Aside0.mk (Kd.R_elder' (by (with_reducible repeat (first | apply Kd.R_alloc | apply Kd.R_drewN | apply Kd.R_drew)); exact HO_6.out) (Kd.R_base ho0) hb); have n2_ := Aside0.mk (Kd.R_below (by (with_reducible repeat (first | apply Kd.R_alloc | apply Kd.R_drewN | apply Kd.R_drew)); exact HO128.out) hb); have n3_ := Aside0.mk (Kd.R_lower (Kd.R_new' (Kd.R_new' (Kd.R_mono (ok' := fun k_ => True) ho0 (fun _ hk_ => trivial)) (Kd.R_lt (by (with_reducible repeat (first | apply Kd.R_alloc | apply Kd.R_drewN | apply Kd.R_drew)); exact HO_3.out))) (Kd.R_lt (by (with_reducible repeat (first | apply Kd.R_alloc | apply Kd.R_drewN | apply Kd.R_drew)); exact HO_6.out))) (below_size (by repeat (first | (with_reducible first | exact HB.out | apply below_alloc | apply pw_below_drewN | apply below_drew1) | exact HB.out)))); have n4_ := Aside0.mk (below_step (by repeat (first | (with_reducible first | exact HB.out | apply below_alloc | apply pw_below_drewN | apply below_drew1) | exact HB.out)) hb); clear HO_3; clear HO_6; clear HO128; clear HB; have HO_3 := n0_; have HO_6 := n1_; have HO128 := n2_; have HO131 := n3_; have HB := n4_; clear n0_ n1_ n2_ n3_ n4_; (try clear hb); (try clear hb2); (try clear hk); (try clear hi); (try clear ho0)))
                      (try simp only [Act.put, List.setIfInBounds_toArray, List.set_cons_zero, List.set_cons_succ])
                      go_cut [84] (fun v84 wc => ∃ (kq : Nat) (x84_49 : Bool), v84 = .bool x84_49 ∧ Aside0 (laws_FnExactTupleOf.j2 kq t124 t123 x84_49 = some r) ∧ Aside0 (kq ≤ kj26) ∧ Aside0 (Kd.R k28 28 wc w.heap.size (fun _ => True) (.slice Ao51 t111.length co51) t124) ∧ Aside0 (Below w.heap.size w wc))
                      case first =>
                        have H := HC50.out
                        clear HC50
                        replace H := Option.bind_eq_some_iff.mp H
                        obtain ⟨t133, A570, H⟩ := H
                        replace H : (if t133 = true then (laws_FnExactTupleOf.j2 kj26 t124 t123 (t132 != t105)) else (laws_FnExactTupleOf.j2 kj26 t124 t123 true)) = some r := H
                        have A57 := Aside0.mk A570
                        clear A570
                        by_cases c58 : t133 = true
                        · subst c58
                          have H1 : (laws_FnExactTupleOf.j2 kj26 t124 t123 (t132 != t105)) = some r := by rw [if_pos rfl] at H; exact H
                          clear H
                          have H := H1
                          clear H1
                          have H' := Aside0.mk H
                          clear H
                          obtain ⟨Ao59, co59, eo59⟩ := Kd.R_slice HO131.out
                          subst eo59
                          obtain ⟨Ao60, co60, eo60⟩ := Kd.R_slice HO_3.out
                          subst eo60
                          go_wp2_with (first | ((with_reducible refine gate_callee (f := 31) rfl ?_); refine goesL_ (some 78) rfl rfl Try.func31 (by kernel_rfl) rfl #[.slice Ao59 t129.length co59, .slice Ao60 t104.length co60] rfl (by (try simp only [List.map_toArray, List.map_cons, List.map_nil]); first | done | rfl | (simp only [List.length_drop, List.length_take]; rfl)) ?_; (with_reducible refine (laws_eqValueS.calls kj26 _ _ t129 _ _ t104 true _ ?side1 ?side2 ?side3 ?side4 A57.out).mono ?_); (case side1 => repeat (first | exact (Kd.R_reads' HO131.out).2.2 | (with_reducible refine Kd.C_alloc ?_ _) | (with_reducible refine Kd.C_drewN ?_ _) | (with_reducible refine Kd.C_drew ?_))); (case side2 => exact (Kd.R_reads' HO131.out).2.1); (case side3 => repeat (first | exact (Kd.R_reads' HO_3.out).2.2 | (with_reducible refine Kd.C_alloc ?_ _) | (with_reducible refine Kd.C_drewN ?_ _) | (with_reducible refine Kd.C_drew ?_))); (case side4 => exact (Kd.R_reads' HO_3.out).2.1); rintro e w61 ⟨rfl, hb⟩; refine ⟨_, rfl, ?_⟩; have n0_ := Aside0.mk (Kd.R_below (by (with_reducible repeat (first | apply Kd.R_alloc | apply Kd.R_drewN | apply Kd.R_drew)); exact HO_3.out) hb); have n1_ := Aside0.mk (Kd.R_below (by (with_reducible repeat (first | apply Kd.R_alloc | apply Kd.R_drewN | apply Kd.R_drew)); exact HO_6.out) hb); have n2_ := Aside0.mk (Kd.R_below (by (with_reducible repeat (first | apply Kd.R_alloc | apply Kd.R_drewN | apply Kd.R_drew)); exact HO128.out) hb); have n3_ := Aside0.mk (Kd.R_below (by (with_reducible repeat (first | apply Kd.R_alloc | apply Kd.R_drewN | apply Kd.R_drew)); exact HO131.out) hb); have n4_ := Aside0.mk (below_step (by repeat (first | (with_reducible first | exact HB.out | apply below_alloc | apply pw_below_drewN | apply below_drew1) | exact HB.out)) hb); clear HO_3; clear HO_6; clear HO128; clear HO131; clear HB; have HO_3 := n0_; have HO_6 := n1_; have HO128 := n2_; have HO131 := n3_; have HB := n4_; clear n0_ n1_ n2_ n3_ n4_; (try clear hb); (try clear hb2); (try clear hk); (try clear hi)))
                          go_meet
                          case rel => exact ⟨_, ((t132 != t105)), (by first | rfl | (simp; done) | (simp [*]; done)), H', ⟨by have := HJ6.out; have := HJ26.out; first | omega | exact Nat.le_refl _⟩, ⟨by (with_reducible repeat (first | apply Kd.R_alloc | apply Kd.R_drewN | apply Kd.R_drew)); exact Kd.R_mono HO_6.out (fun _ hk => trivial)⟩, ⟨by repeat (first | (with_reducible first | exact HB.out | apply below_alloc | apply pw_below_drewN | apply below_drew1) | exact HB.out)⟩⟩
                        · replace c58 := Bool.eq_false_iff.mpr c58
                          subst c58
                          have H1 : (laws_FnExactTupleOf.j2 kj26 t124 t123 true) = some r := by rw [if_neg (show ¬ (false = true) by decide)] at H; exact H
                          clear H
                          have H := H1
                          clear H1
                          have H' := Aside0.mk H
                          clear H
                          obtain ⟨Ao62, co62, eo62⟩ := Kd.R_slice HO131.out
                          subst eo62
                          obtain ⟨Ao63, co63, eo63⟩ := Kd.R_slice HO_3.out
                          subst eo63
                          go_wp2_with (first | ((with_reducible refine gate_callee (f := 31) rfl ?_); refine goesL_ (some 78) rfl rfl Try.func31 (by kernel_rfl) rfl #[.slice Ao62 t129.length co62, .slice Ao63 t104.length co63] rfl (by (try simp only [List.map_toArray, List.map_cons, List.map_nil]); first | done | rfl | (simp only [List.length_drop, List.length_take]; rfl)) ?_; (with_reducible refine (laws_eqValueS.calls kj26 _ _ t129 _ _ t104 false _ ?side1 ?side2 ?side3 ?side4 A57.out).mono ?_); (case side1 => repeat (first | exact (Kd.R_reads' HO131.out).2.2 | (with_reducible refine Kd.C_alloc ?_ _) | (with_reducible refine Kd.C_drewN ?_ _) | (with_reducible refine Kd.C_drew ?_))); (case side2 => exact (Kd.R_reads' HO131.out).2.1); (case side3 => repeat (first | exact (Kd.R_reads' HO_3.out).2.2 | (with_reducible refine Kd.C_alloc ?_ _) | (with_reducible refine Kd.C_drewN ?_ _) | (with_reducible refine Kd.C_drew ?_))); (case side4 => exact (Kd.R_reads' HO_3.out).2.1); rintro e w64 ⟨rfl, hb⟩; refine ⟨_, rfl, ?_⟩; have n0_ := Aside0.mk (Kd.R_below (by (with_reducible repeat (first | apply Kd.R_alloc | apply Kd.R_drewN | apply Kd.R_drew)); exact HO_3.out) hb); have n1_ := Aside0.mk (Kd.R_below (by (with_reducible repeat (first | apply Kd.R_alloc | apply Kd.R_drewN | apply Kd.R_drew)); exact HO_6.out) hb); have n2_ := Aside0.mk (Kd.R_below (by (with_reducible repeat (first | apply Kd.R_alloc | apply Kd.R_drewN | apply Kd.R_drew)); exact HO128.out) hb); have n3_ := Aside0.mk (Kd.R_below (by (with_reducible repeat (first | apply Kd.R_alloc | apply Kd.R_drewN | apply Kd.R_drew)); exact HO131.out) hb); have n4_ := Aside0.mk (below_step (by repeat (first | (with_reducible first | exact HB.out | apply below_alloc | apply pw_below_drewN | apply below_drew1) | exact HB.out)) hb); clear HO_3; clear HO_6; clear HO128; clear HO131; clear HB; have HO_3 := n0_; have HO_6 := n1_; have HO128 := n2_; have HO131 := n3_; have HB := n4_; clear n0_ n1_ n2_ n3_ n4_; (try clear hb); (try clear hb2); (try clear hk); (try clear hi)))
                          go_meet
                          case rel => exact ⟨_, (true), (by first | rfl | (simp; done) | (simp [*]; done)), H', ⟨by have := HJ6.out; have := HJ26.out; first | omega | exact Nat.le_refl _⟩, ⟨by (with_reducible repeat (first | apply Kd.R_alloc | apply Kd.R_drewN | apply Kd.R_drew)); exact Kd.R_mono HO_6.out (fun _ hk => trivial)⟩, ⟨by repeat (first | (with_reducible first | exact HB.out | apply below_alloc | apply pw_below_drewN | apply below_drew1) | exact HB.out)⟩⟩
                      case rest =>
                        clear HC50
                        try clear c1
                        try clear c2
                        try clear c2b0
                        try clear c2b1
                        try clear p2
                        try clear c3
                        try clear c4
                        try clear c5
                        try clear c14
                        try clear c15
                        try clear c22
                        try clear c25
                        try clear c31
                        try clear c31b0
                        try clear c33
                        try clear c40
                        try clear c42
                        try clear c43
                        try clear c43b0
                        try clear c45
                        try clear c46
                        try clear c47
                        try clear c47b0
                        try clear c47b1
                        try clear c50
                        try clear c51
                        try clear c52
                        try clear c58
                        try clear p2
                        obtain ⟨kq, x84_49, rfl, HA, HJ49, HO_6, HB⟩ := hcut
                        have hl6_49 := (Kd.R_reads' HO_6.out).1
                        rw [hl6_49] at HO_6
                        (try simp only [hl6_49])
                        cases kq with
                        | zero => exact absurd HA.out (by simp [laws_FnExactTupleOf.j2])
                        | succ kj49 =>
                          have H := HA.out
                          clear HA
                          simp only [laws_FnExactTupleOf.j2] at H
                          by_cases c65 : x84_49 = true
                          · subst c65
                            have H1 : (some false) = some r := by rw [if_pos rfl] at H; exact H
                            clear H
                            have H := H1
                            clear H1
                            obtain rfl := Option.some.inj H
                            go_wp2
                            go_ret
                            exact ⟨by first | rfl | (simp [errW_none, errW_some] <;> rfl) | (simp [*, errW_none, errW_some] <;> rfl), by repeat (first | (with_reducible first | exact HB.out | apply below_alloc | apply pw_below_drewN | apply below_drew1) | exact HB.out)⟩
                          · replace c65 := Bool.eq_false_iff.mpr c65
                            subst c65
                            have H1 : ((laws_heldValueS.f kj49 t124 1).bind fun t134 => (if t134 < 0 then (some false) else (if t134 = t123 then (some true) else (some false)))) = some r := by rw [if_neg (show ¬ (false = true) by decide)] at H; exact H
                            clear H
                            have H := H1
                            clear H1
                            replace H := Option.bind_eq_some_iff.mp H
                            obtain ⟨t134, A660, H⟩ := H
                            replace H : (if t134 < 0 then (some false) else (if t134 = t123 then (some true) else (some false))) = some r := H
                            have A66 := Aside0.mk A660
                            clear A660
                            by_cases c67 : t134 < 0
                            · rw [if_pos c67] at H
                              have c67b0 : decide (t134 < 0) = true := decide_eq_true c67
                              clear c67
                              obtain rfl := Option.some.inj H
                              go_wp2_with (first | ((with_reducible refine gate_callee (f := 42) rfl ?_); refine goesL_ (some 87) rfl rfl Try.func42 (by kernel_rfl) rfl #[.slice Ao51 t124.length co51, .int .i64 1] rfl (by (try simp only [List.map_toArray, List.map_cons, List.map_nil]); first | done | rfl | (simp only [List.length_drop, List.length_take]; rfl)) ?_; (with_reducible refine (laws_heldValueS.calls kj49 _ _ t124 1 t134 _ ?side1 ?side2 A66.out).mono ?_); (case side1 => repeat (first | exact (Kd.R_reads' HO_6.out).2.2 | (with_reducible refine Kd.C_alloc ?_ _) | (with_reducible refine Kd.C_drewN ?_ _) | (with_reducible refine Kd.C_drew ?_))); (case side2 => exact (Kd.R_reads' HO_6.out).2.1); rintro e w68 ⟨rfl, hb⟩; refine ⟨_, rfl, ?_⟩; have n0_ := Aside0.mk (Kd.R_below (by (with_reducible repeat (first | apply Kd.R_alloc | apply Kd.R_drewN | apply Kd.R_drew)); exact HO_6.out) hb); have n1_ := Aside0.mk (below_step (by repeat (first | (with_reducible first | exact HB.out | apply below_alloc | apply pw_below_drewN | apply below_drew1) | exact HB.out)) hb); clear HO_6; clear HB; have HO_6 := n0_; have HB := n1_; clear n0_ n1_; (try clear hb); (try clear hb2); (try clear hk); (try clear hi)))
                              go_ret
                              exact ⟨by first | rfl | (simp [errW_none, errW_some] <;> rfl) | (simp [*, errW_none, errW_some] <;> rfl), by repeat (first | (with_reducible first | exact HB.out | apply below_alloc | apply pw_below_drewN | apply below_drew1) | exact HB.out)⟩
                            · rw [if_neg c67] at H
                              have c67b0 : decide (t134 < 0) = false := decide_eq_false c67
                              clear c67
                              by_cases c69 : t134 = t123
                              · rw [if_pos c69] at H
                                have c69b0 : (t134 == t123) = true := beq_iff_eq.mpr c69
                                have c69b1 : (t134 != t123) = false := bne_eq_false_iff_eq.mpr c69
                                clear c69
                                obtain rfl := Option.some.inj H
                                go_wp2_with (first | ((with_reducible refine gate_callee (f := 42) rfl ?_); refine goesL_ (some 87) rfl rfl Try.func42 (by kernel_rfl) rfl #[.slice Ao51 t124.length co51, .int .i64 1] rfl (by (try simp only [List.map_toArray, List.map_cons, List.map_nil]); first | done | rfl | (simp only [List.length_drop, List.length_take]; rfl)) ?_; (with_reducible refine (laws_heldValueS.calls kj49 _ _ t124 1 t134 _ ?side1 ?side2 A66.out).mono ?_); (case side1 => repeat (first | exact (Kd.R_reads' HO_6.out).2.2 | (with_reducible refine Kd.C_alloc ?_ _) | (with_reducible refine Kd.C_drewN ?_ _) | (with_reducible refine Kd.C_drew ?_))); (case side2 => exact (Kd.R_reads' HO_6.out).2.1); rintro e w70 ⟨rfl, hb⟩; refine ⟨_, rfl, ?_⟩; have n0_ := Aside0.mk (Kd.R_below (by (with_reducible repeat (first | apply Kd.R_alloc | apply Kd.R_drewN | apply Kd.R_drew)); exact HO_6.out) hb); have n1_ := Aside0.mk (below_step (by repeat (first | (with_reducible first | exact HB.out | apply below_alloc | apply pw_below_drewN | apply below_drew1) | exact HB.out)) hb); clear HO_6; clear HB; have HO_6 := n0_; have HB := n1_; clear n0_ n1_; (try clear hb); (try clear hb2); (try clear hk); (try clear hi)))
                                go_ret
                                exact ⟨by first | rfl | (simp [errW_none, errW_some] <;> rfl) | (simp [*, errW_none, errW_some] <;> rfl), by repeat (first | (with_reducible first | exact HB.out | apply below_alloc | apply pw_below_drewN | apply below_drew1) | exact HB.out)⟩
                              · rw [if_neg c69] at H
                                have c69b0 : (t134 == t123) = false := beq_eq_false_iff_ne.mpr c69
                                have c69b1 : (t134 != t123) = true := bne_iff_ne.mpr c69
                                obtain rfl := Option.some.inj H
                                go_wp2_with (first | ((with_reducible refine gate_callee (f := 42) rfl ?_); refine goesL_ (some 87) rfl rfl Try.func42 (by kernel_rfl) rfl #[.slice Ao51 t124.length co51, .int .i64 1] rfl (by (try simp only [List.map_toArray, List.map_cons, List.map_nil]); first | done | rfl | (simp only [List.length_drop, List.length_take]; rfl)) ?_; (with_reducible refine (laws_heldValueS.calls kj49 _ _ t124 1 t134 _ ?side1 ?side2 A66.out).mono ?_); (case side1 => repeat (first | exact (Kd.R_reads' HO_6.out).2.2 | (with_reducible refine Kd.C_alloc ?_ _) | (with_reducible refine Kd.C_drewN ?_ _) | (with_reducible refine Kd.C_drew ?_))); (case side2 => exact (Kd.R_reads' HO_6.out).2.1); rintro e w71 ⟨rfl, hb⟩; refine ⟨_, rfl, ?_⟩; have n0_ := Aside0.mk (Kd.R_below (by (with_reducible repeat (first | apply Kd.R_alloc | apply Kd.R_drewN | apply Kd.R_drew)); exact HO_6.out) hb); have n1_ := Aside0.mk (below_step (by repeat (first | (with_reducible first | exact HB.out | apply below_alloc | apply pw_below_drewN | apply below_drew1) | exact HB.out)) hb); clear HO_6; clear HB; have HO_6 := n0_; have HB := n1_; clear n0_ n1_; (try clear hb); (try clear hb2); (try clear hk); (try clear hi)))
                                go_ret
                                exact ⟨by first | rfl | (simp [errW_none, errW_some] <;> rfl) | (simp [*, errW_none, errW_some] <;> rfl), by repeat (first | (with_reducible first | exact HB.out | apply below_alloc | apply pw_below_drewN | apply below_drew1) | exact HB.out)⟩
                    · rw [if_neg c47] at H
                      have c47b0 : (t125 == t123) = false := beq_eq_false_iff_ne.mpr c47
                      have c47b1 : (t125 != t123) = true := bne_iff_ne.mpr c47
                      obtain rfl := Option.some.inj H
                      obtain ⟨Ao72, co72, eo72⟩ := Kd.R_slice HO_6.out
                      subst eo72
                      go_wp2_with (first | ((with_reducible refine gate_callee (f := 40) rfl ?_); refine goesL_ (some 61) rfl rfl Try.func40 (by kernel_rfl) rfl #[.slice Ao72 t111.length co72, .int .i64 1] rfl (by (try simp only [List.map_toArray, List.map_cons, List.map_nil]); first | done | rfl | (simp only [List.length_drop, List.length_take]; rfl)) ?_; (with_reducible refine (laws_markValueS.calls kj26 (fun k_ => some k_ = (.slice Ao72 t111.length co72 : Value).ownBlock) (.slice Ao72 t111.length co72) t111 1 t123 t124 w _ ?side1 ?side2 A41.out).mono ?_); (case side1 => repeat (first | (with_reducible first | exact HB.out | apply below_alloc | apply pw_below_drewN | apply below_drew1) | exact HB.out)); (case side2 => exact Kd.R_tight rfl HO_6.out); rintro e w73 ⟨rfl, hy0, hb, hkp⟩; refine ⟨_, rfl, ?_⟩; have n0_ := Aside0.mk (Kd.R_mono (ok' := fun k_ => some k_ ≠ (.slice Ao72 t111.length co72 : Value).ownBlock) (Kd.R_keptB (HO_3.out) hkp (fun k_ hk_ hs_ => (hk_) hs_)) (fun k_ hk_ => hk_.1)); have n1_ := Aside0.mk (Kd.R_reok rfl hy0 (fun k_ e_ => HO_6.out.1 k_ e_)); have n2_ := Aside0.mk (hb); clear HO_3; clear HO_6; clear HB; have HO_3 := n0_; have HO_6 := n1_; have HB := n2_; clear n0_ n1_ n2_; (try clear hb); (try clear hkp); (try clear hy0)) | ((with_reducible refine gate_callee (f := 42) rfl ?_); refine goesL_ (some 64) rfl rfl Try.func42 (by kernel_rfl) rfl #[.slice Ao72 t124.length co72, .int .i64 1] rfl (by (try simp only [List.map_toArray, List.map_cons, List.map_nil]); first | done | (rw [show t124.length = t111.length from (Kd.R_reads' HO_6.out).1.symm] <;> rfl) | rfl | (simp only [List.length_drop, List.length_take]; rfl)) ?_; (with_reducible refine (laws_heldValueS.calls kj26 _ _ t124 1 t125 _ ?side1 ?side2 A42.out).mono ?_); (case side1 => repeat (first | exact (Kd.R_reads' HO_6.out).2.2 | (with_reducible refine Kd.C_alloc ?_ _) | (with_reducible refine Kd.C_drewN ?_ _) | (with_reducible refine Kd.C_drew ?_))); (case side2 => rw [show t124.length = t111.length from (Kd.R_reads' HO_6.out).1.symm]; exact (Kd.R_reads' HO_6.out).2.1); rintro e w74 ⟨rfl, hb⟩; refine ⟨_, rfl, ?_⟩; have n0_ := Aside0.mk (Kd.R_below (by (with_reducible repeat (first | apply Kd.R_alloc | apply Kd.R_drewN | apply Kd.R_drew)); exact HO_3.out) hb); have n1_ := Aside0.mk (Kd.R_below (by (with_reducible repeat (first | apply Kd.R_alloc | apply Kd.R_drewN | apply Kd.R_drew)); exact HO_6.out) hb); have n2_ := Aside0.mk (below_step (by repeat (first | (with_reducible first | exact HB.out | apply below_alloc | apply pw_below_drewN | apply below_drew1) | exact HB.out)) hb); clear HO_3; clear HO_6; clear HB; have HO_3 := n0_; have HO_6 := n1_; have HB := n2_; clear n0_ n1_ n2_; (try clear hb); (try clear hb2); (try clear hk); (try clear hi)))
                      go_ret
                      exact ⟨by first | rfl | (simp [errW_none, errW_some] <;> rfl) | (simp [*, errW_none, errW_some] <;> rfl), by repeat (first | (with_reducible first | exact HB.out | apply below_alloc | apply pw_below_drewN | apply below_drew1) | exact HB.out)⟩
          · replace c25 := Bool.eq_false_iff.mpr c25
            subst c25
            have H1 : (some false) = some r := by rw [if_neg (show ¬ (false = true) by decide)] at H; exact H
            clear H
            have H := H1
            clear H1
            obtain rfl := Option.some.inj H
            go_wp2_with (first | ((with_reducible refine gate_callee (f := 51) rfl ?_); refine goesL_ (some 40) rfl rfl Try.func51 (by kernel_rfl) rfl #[.slice A0 l0.length c0] rfl (by (try simp only [List.map_toArray, List.map_cons, List.map_nil]); first | done | rfl | (simp only [List.length_drop, List.length_take]; rfl)) ?_; (with_reducible refine (laws_toByteS.calls kj6 _ _ l0 t116 _ ?side1 ?side2 A23.out).mono ?_); (case side1 => repeat (first | exact (Kd.C_below HR0.out HB.out) | (with_reducible refine Kd.C_alloc ?_ _) | (with_reducible refine Kd.C_drewN ?_ _) | (with_reducible refine Kd.C_drew ?_))); (case side2 => exact HC0.out); rintro e w75 ⟨v117, rfl, ho0, hb⟩; refine ⟨_, rfl, ?_⟩; have n0_ := Aside0.mk (Kd.R_below (by (with_reducible repeat (first | apply Kd.R_alloc | apply Kd.R_drewN | apply Kd.R_drew)); exact HO_3.out) hb); have n1_ := Aside0.mk (Kd.R_elder' (by (with_reducible repeat (first | apply Kd.R_alloc | apply Kd.R_drewN | apply Kd.R_drew)); exact HO_5.out) (Kd.R_base ho0) hb); have n2_ := Aside0.mk (Kd.R_below (by (with_reducible repeat (first | apply Kd.R_alloc | apply Kd.R_drewN | apply Kd.R_drew)); exact HO_6.out) hb); have n3_ := Aside0.mk (Kd.R_lower (Kd.R_new' ho0 (Kd.R_lt (by (with_reducible repeat (first | apply Kd.R_alloc | apply Kd.R_drewN | apply Kd.R_drew)); exact HO_5.out))) (below_size (by repeat (first | (with_reducible first | exact HB.out | apply below_alloc | apply pw_below_drewN | apply below_drew1) | exact HB.out)))); have n4_ := Aside0.mk (below_step (by repeat (first | (with_reducible first | exact HB.out | apply below_alloc | apply pw_below_drewN | apply below_drew1) | exact HB.out)) hb); clear HO_3; clear HO_5; clear HO_6; clear HB; have HO_3 := n0_; have HO_5 := n1_; have HO_6 := n2_; have HO118 := n3_; have HB := n4_; clear n0_ n1_ n2_ n3_ n4_; (try clear hb); (try clear hb2); (try clear hk); (try clear hi); (try clear ho0); obtain ⟨Ao76, co76, eo76⟩ := Kd.R_slice HO118.out; subst eo76) | ((with_reducible refine gate_callee (f := 45) rfl ?_); refine goesL_ (some 41) rfl rfl Try.func45 (by kernel_rfl) rfl #[.slice Ao12 t108.length co12, .slice Ao76 t116.length co76] rfl (by (try simp only [List.map_toArray, List.map_cons, List.map_nil]); first | done | rfl | (simp only [List.length_drop, List.length_take]; rfl)) ?_; (with_reducible refine (laws_eqByteS.calls kj6 _ _ t108 _ _ t116 false _ ?side1 ?side2 ?side3 ?side4 A24.out).mono ?_); (case side1 => repeat (first | exact (Kd.R_reads' HO_5.out).2.2 | (with_reducible refine Kd.C_alloc ?_ _) | (with_reducible refine Kd.C_drewN ?_ _) | (with_reducible refine Kd.C_drew ?_))); (case side2 => exact (Kd.R_reads' HO_5.out).2.1); (case side3 => repeat (first | exact (Kd.R_reads' HO118.out).2.2 | (with_reducible refine Kd.C_alloc ?_ _) | (with_reducible refine Kd.C_drewN ?_ _) | (with_reducible refine Kd.C_drew ?_))); (case side4 => exact (Kd.R_reads' HO118.out).2.1); rintro e w' ⟨rfl, ⟨nd, rfl⟩⟩; refine ⟨_, rfl, ?_⟩))
            go_ret
            exact ⟨by first | rfl | (simp [errW_none, errW_some] <;> rfl) | (simp [*, errW_none, errW_some] <;> rfl), by repeat (first | (with_reducible first | exact HB.out | apply below_alloc | apply pw_below_drewN | apply below_drew1) | exact HB.out)⟩
end Go.Proofs.Ytgnmdhkkbkoghaa.P
namespace Go.Proofs.YtgnmdhkkbkoghaaZ
open Go.RowKit Go.Proofs.YtgnmdhkkbkoghaaW.PrintWords Go.Proofs.YtgnmdhkkbkoghaaW.PrintLast
def Opens {α : Type} (P : Program) (t : TypeId) (d : Kd α) (wf : α → Prop) : Prop :=
  ∀ (H : Type) (enc : TypeId × Value → H) (w : World) (fuel : Nat) (cs : List Value) (x : DataW H × List MemPlace),
    DataW.trod enc P w 0 (fun _ => true) true fuel t cs = some x → ∃ a, d.K w a cs ∧ wf a
theorem Opens.int {P : Program} {t : TypeId} {k : IntKind} (hu : P.underlying t = some (.int k)) : Opens P t (Kd.int k) (fun n => (Lit.int k n).wf = true) := by
  intro H enc w fuel cs x h
  obtain ⟨n, rfl, _, hw⟩ := DataW.trod_int hu h
  exact ⟨n, rfl, hw⟩
theorem Opens.bool {P : Program} {t : TypeId} (hu : P.underlying t = some .bool) : Opens P t Kd.bool (fun _ => True) := by
  intro H enc w fuel cs x h
  obtain ⟨n, rfl, _⟩ := DataW.trod_bool hu h
  exact ⟨n, rfl, trivial⟩
theorem Opens.string {P : Program} {t : TypeId} (hu : P.underlying t = some .string) : Opens P t Kd.string (fun s => s.size ≤ 9223372036854775807) := by
  intro H enc w fuel cs x h
  obtain ⟨n, rfl, _, hw⟩ := DataW.trod_string hu h
  exact ⟨n, rfl, by simpa [maxLen] using hw⟩
theorem exists_list {α : Type} (Q : Nat → α → Prop) : ∀ n, (∀ i, i < n → ∃ y, Q i y) → ∃ xs : List α, xs.length = n ∧ ∀ j p, xs[j]? = some p → Q j p
  | 0, _ => ⟨[], rfl, fun j p h => by simp at h⟩
  | n + 1, h => by
    obtain ⟨xs, hl, hx⟩ := exists_list Q n (fun i hi => h i (by omega))
    obtain ⟨y, hy⟩ := h n (by omega)
    refine ⟨xs ++ [y], by simp [hl], fun j p hj => ?_⟩
    by_cases hjn : j < n
    · rw [List.getElem?_append_left (by omega)] at hj
      exact hx j p hj
    · have hlt := (List.getElem?_eq_some_iff.1 hj).1
      rw [List.length_append, List.length_singleton, hl] at hlt
      obtain rfl : j = n := by omega
      rw [List.getElem?_append_right (by omega), hl, Nat.sub_self] at hj
      obtain rfl : y = p := by simpa using hj
      exact hy
theorem Opens.slice {α : Type} {P : Program} {t e : TypeId} {d : Kd α} {wf : α → Prop} (e' : Nat) (hu : P.underlying t = some (.slice e)) (hc : P.cellsOf e = d.sz) (he : Opens P e d wf) :
    Opens P t (Kd.slice e' d) (fun xs => xs.length ≤ 9223372036854775807 ∧ ∀ a ∈ xs, wf a) := by
  intro H enc w fuel cs x h
  rcases DataW.trod_slice hu h with ⟨rfl, _⟩ | ⟨a, len, cap, elems, rest, n, _, rfl, _, hb, hl, hm, hlen, hel, _, _⟩
  · exact ⟨[], ⟨none, 0, rfl, Nat.le_refl _, Kd.C_nil _ _⟩, by simp⟩
  · have each : ∀ i, i < len → ∃ y, wf y ∧ ∃ c, c.length = d.sz ∧ d.K w y c ∧ ∀ j u, c[j]? = some u → w.cell? (a.add (i * d.sz + j)) = some u := by
      intro i hi
      have h1 := hel i hi
      rw [List.getElem?_eq_getElem (by omega), hc, Option.bind_eq_some_iff] at h1
      obtain ⟨c, hcs, hy⟩ := h1
      obtain ⟨y, hK, hw⟩ := he _ _ _ _ _ _ hy
      refine ⟨y, hw, c, d.K_len hK, hK, fun j u hj => ?_⟩
      have h2 := World.cells?_some hcs
      rw [← Addr.add_add]
      have hjl := (List.getElem?_eq_some_iff.1 hj).1
      rw [← hj]
      exact (h2.2.2 j (by rw [← h2.2.1]; exact hjl))
    obtain ⟨xs, hxl, hxs⟩ := exists_list _ len each
    simp only [maxLen] at hm
    refine ⟨xs, ⟨some a, cap, by rw [hxl], by omega, rfl, by omega, fun _ => ⟨a, rfl, fun j p hj => ?_⟩⟩, by omega, fun y hy => ?_⟩
    · obtain ⟨_, c, hcl, hK, hcell⟩ := hxs j p hj
      exact ⟨c, hcl, hK, hcell⟩
    · obtain ⟨j, hj⟩ := List.getElem?_of_mem hy
      exact (hxs j y hj).1
def OpensF {α : Type} (P : Program) (fs : Array Field) (o : Nat) (d : Kd α) (wf : α → Prop) : Prop :=
  ∀ (H : Type) (enc : TypeId × Value → H) (w : World) (fuel : Nat) (cs : List Value) (xs : List (DataW H × List MemPlace)), cs.length = o + d.sz → xs.length = fs.size →
    (∀ (j : Nat) (f : Field), fs[j]? = some f → DataW.trod enc P w 0 (fun _ => true) true fuel f.type ((cs.drop f.offset).take (P.cellsOf f.type)) = xs[j]?) → ∃ a, d.K w a (cs.drop o) ∧ wf a
theorem OpensF.cons {α β : Type} {P : Program} {fs : Array Field} {o : Nat} {d : Kd α} {d' : Kd β} {wf : α → Prop} {wf' : β → Prop} (i : Nat) (f : Field) (hf : fs[i]? = some f) (ho : f.offset = o) (hc : P.cellsOf f.type = d.sz) (h : Opens P f.type d wf)
    (h' : OpensF P fs (o + d.sz) d' wf') : OpensF P fs o (Kd.pair d d') (fun x => wf x.1 ∧ wf' x.2) := by
  intro H enc w fuel cs xs hl hx hall
  have h1 := hall i f hf
  have hi : i < xs.length := by rw [hx]; exact (Array.getElem?_eq_some_iff.1 hf).1
  rw [List.getElem?_eq_getElem hi, ho, hc] at h1
  obtain ⟨a, hK, hw⟩ := h _ _ _ _ _ _ h1
  have hl' : cs.length = o + (d.sz + d'.sz) := hl
  obtain ⟨b, hK', hw'⟩ := h' H enc w fuel cs xs (by omega) hx hall
  refine ⟨(a, b), ⟨_, _, ?_, hK, hK'⟩, hw, hw'⟩
  rw [← List.drop_drop, List.take_append_drop]
theorem Opens.struct {α β : Type} {P : Program} {t : TypeId} {fs : Array Field} {d : Kd α} {wf : α → Prop} (f : β → α) (g : α → β) (hfg : ∀ a, f (g a) = a) (hu : P.underlying t = some (.struct fs)) (hc : P.cellsOf t = d.sz) (h : OpensF P fs 0 d wf) :
    Opens P t (Kd.iso d f) (fun b => wf (f b)) := by
  intro H enc w fuel cs x hx
  obtain ⟨xs, n, _, _, hl, hxl, hall⟩ := DataW.trod_struct hu hx
  obtain ⟨a, hK, hw⟩ := h H enc w n cs xs (by omega) hxl hall
  refine ⟨g a, ?_, ?_⟩
  · show d.K w (f (g a)) cs
    rw [hfg]; exact hK
  · show wf (f (g a))
    rw [hfg]; exact hw
theorem Opens.param {α : Type} {P : Program} {t : TypeId} {d : Kd α} {wf : α → Prop} (h : Opens P t d wf) {H : Type} {enc : TypeId × Value → H} {w : World} {v : Value} {D : DataW H} {ps : List MemPlace} (hv : DataW.Trod enc P w 0 (fun _ => true) true t v D ps) :
    ∃ a, d.K w a v.cells.toList ∧ wf a := by
  obtain ⟨fuel, hf⟩ := hv
  exact h _ _ _ _ _ _ hf
end Go.Proofs.YtgnmdhkkbkoghaaZ
namespace Go.Proofs.Ytgnmdhkkbkoghaa.P
open Go.RowKit Go.Proofs.YtgnmdhkkbkoghaaW.PrintWords Go.Proofs.YtgnmdhkkbkoghaaW.PrintLast Go.Proofs.YtgnmdhkkbkoghaaZ
def PureFnExactTupleOf : Prop := ∀ (x0 : List Int), (x0.length ≤ 9223372036854775807 ∧ ∀ y ∈ x0, (Lit.int .u8 y).wf = true) → ∃ k, laws_FnExactTupleOf.f k x0 = some true
end Go.Proofs.Ytgnmdhkkbkoghaa.P
namespace Go.Proofs.Ytgnmdhkkbkoghaa.P
open Go.RowKit Go.Proofs.YtgnmdhkkbkoghaaW.PrintWords Go.Proofs.YtgnmdhkkbkoghaaW.PrintLast Go.Proofs.YtgnmdhkkbkoghaaW.PrintMore
attribute [local go_sem] max2_int min2_int max_two min_two max_three min_three max_four min_four   -- for this text's walks alone
set_option linter.unusedVariables false
set_option linter.unusedSimpArgs false
end Go.Proofs.Ytgnmdhkkbkoghaa.P
namespace Go.Proofs.Ytgnmdhkkbkoghaa.P
open Go.RowKit Go.Proofs.YtgnmdhkkbkoghaaW.PrintWords Go.Proofs.YtgnmdhkkbkoghaaW.PrintLast Go.Proofs.YtgnmdhkkbkoghaaW.PrintMore
attribute [local go_sem] max2_int min2_int max_two min_two max_three min_three max_four min_four   -- for this text's walks alone
set_option linter.unusedVariables false
set_option linter.unusedSimpArgs false
end Go.Proofs.Ytgnmdhkkbkoghaa.P
namespace Go.Proofs.Ytgnmdhkkbkoghaa.P
open Go.RowKit Go.Proofs.YtgnmdhkkbkoghaaW.PrintWords Go.Proofs.YtgnmdhkkbkoghaaW.PrintLast Go.Proofs.YtgnmdhkkbkoghaaW.PrintMore
attribute [local go_sem] max2_int min2_int max_two min_two max_three min_three max_four min_four   -- for this text's walks alone
set_option linter.unusedVariables false
set_option linter.unusedSimpArgs false
end Go.Proofs.Ytgnmdhkkbkoghaa.P
namespace Go.Proofs.Ytgnmdhkkbkoghaa.P
open Go.RowKit Go.Proofs.YtgnmdhkkbkoghaaW.PrintWords Go.Proofs.YtgnmdhkkbkoghaaW.PrintLast Go.Proofs.YtgnmdhkkbkoghaaW.PrintMore
attribute [local go_sem] max2_int min2_int max_two min_two max_three min_three max_four min_four   -- for this text's walks alone
set_option linter.unusedVariables false
set_option linter.unusedSimpArgs false
end Go.Proofs.Ytgnmdhkkbkoghaa.P
namespace Go.Proofs.YtgnmdhkkbkoghaaW.PrintWords
section
variable {α : Type}
theorem Ev.shift {g : Nat → Option α} {r : α} (h : Ev (fun k => g (k + 1)) r) : Ev g r := Ev.step (fun _ => rfl) h
theorem Ev.val {a r : α} (h : a = r) : Ev (fun _ => some a) r := by subst h; exact Ev.now _
theorem Ev.to {g : Nat → Option α} {a r : α} (h : Ev g a) (e : a = r) : Ev g r := e ▸ h
end
end Go.Proofs.YtgnmdhkkbkoghaaW.PrintWords
namespace Go.Proofs.YtgnmdhkkbkoghaaZ
open Go.RowKit Go.Proofs.YtgnmdhkkbkoghaaW.PrintWords
theorem back {n : Nat} {Q : Nat → Prop} (hn : Q n) (hs : ∀ i, i < n → Q (i + 1) → Q i) : ∀ i, i ≤ n → Q i := by
  intro i hi
  obtain ⟨d, rfl⟩ : ∃ d, n = i + d := ⟨n - i, by omega⟩
  clear hi
  induction d generalizing i with
  | zero => exact hn
  | succ d ih =>
    refine hs i (by omega) (ih (i + 1) ?_ ?_)
    · rw [show i + 1 + d = i + (d + 1) by omega]; exact hn
    · intro j hj; exact hs j (by omega)
theorem w64 {n : Int} (h1 : -9223372036854775808 ≤ n) (h2 : n < 9223372036854775808) : wrap64 n = n := by unfold wrap64; omega
theorem w32 {n : Int} (h1 : -2147483648 ≤ n) (h2 : n < 2147483648) : wrap32 n = n := by unfold wrap32; omega
theorem succ64 {i n : Nat} (h : i < n) (hn : n ≤ 9223372036854775807) : wrap64 ((i : Int) + 1) = ((i + 1 : Nat) : Int) := by
  rw [w64 (by omega) (by omega)]; simp
section
variable {τ σ : Type}
def ctl (ct : τ → Int) : List τ → Int
  | [] => 0
  | x :: xs => ct x + ctl ct xs
def mkl (ct : τ → Int) (mk : τ → Int → τ) : List τ → Int → List τ
  | [], _ => []
  | x :: xs, m => mk x m :: mkl ct mk xs (m + ct x)
theorem ctl_nonneg {ct : τ → Int} (h : ∀ x, 0 ≤ ct x) : ∀ l, 0 ≤ ctl ct l
  | [] => Int.le_refl 0
  | x :: xs => by have h1 := h x; have h2 := ctl_nonneg h xs; simp only [ctl]; omega
theorem mkl_length (ct : τ → Int) (mk : τ → Int → τ) : ∀ l m, (mkl ct mk l m).length = l.length
  | [], _ => rfl
  | x :: xs, m => by simp only [mkl, List.length_cons, mkl_length ct mk xs]
theorem get_mid (A : List τ) (x : τ) (B : List τ) : (A ++ x :: B)[A.length]? = some x := by
  rw [List.getElem?_append_right (Nat.le_refl _), Nat.sub_self]; rfl
theorem set_mid (A : List τ) (x y : τ) (B : List τ) : (A ++ x :: B).set A.length y = A ++ [y] ++ B := by
  rw [List.set_append_right _ _ (Nat.le_refl _), Nat.sub_self]; simp
theorem fill_ev (xs : List τ) (c : τ → σ) (z : σ) {g : Nat → List σ → Int → Option (List σ)} (hend : ∀ l : List σ, l.length = xs.length → Ev (fun k => g k l (xs.length : Int)) l)
    (hstep : ∀ (l : List σ) (i : Nat) (x : τ) (r : List σ), xs[i]? = some x → l.length = xs.length → i < xs.length → Ev (fun k => g k (l.set i (c x)) ((i + 1 : Nat) : Int)) r → Ev (fun k => g k l (i : Int)) r) :
    Ev (fun k => g k (List.replicate xs.length z) 0) (xs.map c) := by
  have key : ∀ (B A : List τ), xs = A ++ B → Ev (fun k => g k (A.map c ++ List.replicate B.length z) (A.length : Int)) (xs.map c) := by
    intro B
    induction B with
    | nil =>
      intro A hA
      rw [List.append_nil] at hA
      have := hend (xs.map c) (by simp)
      subst hA
      simp only [List.length_nil, List.replicate_zero, List.append_nil]
      exact this
    | cons x B ih =>
      intro A hA
      have h1 := ih (A ++ [x]) (by simp [hA])
      refine hstep _ A.length x _ (by rw [hA]; exact get_mid A x B) (by simp [hA]) (by simp [hA]) ?_
      have e : (A.map c ++ List.replicate (x :: B).length z).set A.length (c x) = (A ++ [x]).map c ++ List.replicate B.length z := by
        have := set_mid (A.map c) z (c x) (List.replicate B.length z)
        rw [List.length_map] at this
        simp only [List.length_cons, List.replicate_succ, List.map_append, List.map_cons, List.map_nil]
        exact this
      rw [e]
      simp only [List.length_append, List.length_singleton] at h1
      exact h1
  have := key xs [] rfl
  simpa using this
theorem look_ev (xs : List τ) {ρ : Type} (r : ρ) {g : Nat → Int → Option ρ} (hend : Ev (fun k => g k (xs.length : Int)) r)
    (hstep : ∀ (i : Nat) (x : τ), xs[i]? = some x → i < xs.length → Ev (fun k => g k ((i + 1 : Nat) : Int)) r → Ev (fun k => g k (i : Int)) r) : Ev (fun k => g k 0) r := by
  refine back (n := xs.length) (Q := fun i => Ev (fun k => g k (i : Int)) r) hend (fun i hi h => ?_) 0 (Nat.zero_le _)
  exact hstep i xs[i] (List.getElem?_eq_getElem hi) hi h
theorem mark_ev (ct : τ → Int) (mk : τ → Int → τ) (hc : ∀ x, 0 ≤ ct x) (M : Int) {g : Nat → List τ → Int → Int → Option (Int × List τ)} (N : Nat) (hend : ∀ l m, l.length = N → Ev (fun k => g k l m (l.length : Int)) (m, l))
    (hstep : ∀ (l : List τ) (m : Int) (i : Nat) (x : τ) (r : Int × List τ), l.length = N → l[i]? = some x → i < l.length → 0 ≤ m → m + ct x ≤ M → Ev (fun k => g k (l.set i (mk x m)) (m + ct x) ((i + 1 : Nat) : Int)) r → Ev (fun k => g k l m (i : Int)) r) :
    ∀ l m, l.length = N → 0 ≤ m → m + ctl ct l ≤ M → Ev (fun k => g k l m 0) (m + ctl ct l, mkl ct mk l m) := by
  have key : ∀ (B A : List τ) m, (A ++ B).length = N → 0 ≤ m → m + ctl ct B ≤ M → Ev (fun k => g k (A ++ B) m (A.length : Int)) (m + ctl ct B, A ++ mkl ct mk B m) := by
    intro B
    induction B with
    | nil =>
      intro A m hN h0 h1
      have := hend (A ++ []) m hN
      simpa [ctl, mkl] using this
    | cons x B ih =>
      intro A m hN h0 h1
      have hcx := hc x
      have hcB := ctl_nonneg hc B
      simp only [ctl] at h1 ⊢
      have h2 := ih (A ++ [mk x m]) (m + ct x) (by simpa using hN) (by omega) (by omega)
      refine hstep (A ++ x :: B) m A.length x _ hN (get_mid A x B) (by simp) h0 (by omega) ?_
      rw [set_mid]
      rw [List.length_append, List.length_singleton] at h2
      refine h2.to ?_
      simp only [mkl, List.append_assoc, List.singleton_append]
      congr 1
      omega
  intro l m hN h0 h1
  exact key l [] m hN h0 h1
theorem held_ev (ct : τ → Int) (mk : τ → Int → τ) (hc : ∀ x, 0 ≤ ct x) (M : Int) {g : Nat → List τ → Int → Int → Option Int} (N : Nat) (hend : ∀ l m, l.length = N → Ev (fun k => g k l m (l.length : Int)) m)
    (hstep : ∀ (l : List τ) (m : Int) (i : Nat) (x : τ) (r : Int), l.length = N → l[i]? = some (mk x m) → i < l.length → 0 ≤ m → m + ct x ≤ M → Ev (fun k => g k l (m + ct x) ((i + 1 : Nat) : Int)) r → Ev (fun k => g k l m (i : Int)) r) :
    ∀ l m, l.length = N → 0 ≤ m → m + ctl ct l ≤ M → Ev (fun k => g k (mkl ct mk l m) m 0) (m + ctl ct l) := by
  have key : ∀ (B A : List τ) m, (A ++ mkl ct mk B m).length = N → 0 ≤ m → m + ctl ct B ≤ M → Ev (fun k => g k (A ++ mkl ct mk B m) m (A.length : Int)) (m + ctl ct B) := by
    intro B
    induction B with
    | nil =>
      intro A m hN h0 h1
      have := hend (A ++ []) m hN
      simpa [ctl, mkl] using this
    | cons x B ih =>
      intro A m hN h0 h1
      have hcx := hc x
      have hcB := ctl_nonneg hc B
      simp only [ctl, mkl] at h1 hN ⊢
      have h2 := ih (A ++ [mk x m]) (m + ct x) (by simpa using hN) (by omega) (by omega)
      refine hstep (A ++ mk x m :: mkl ct mk B (m + ct x)) m A.length x _ hN (get_mid A _ _) (by simp) h0 (by omega) ?_
      rw [List.length_append, List.length_singleton] at h2
      simp only [List.append_assoc, List.singleton_append] at h2
      exact h2.to (by omega)
  intro l m hN h0 h1
  exact key l [] m (by simpa [mkl_length] using hN) h0 h1
theorem ctl_const (c : Int) : ∀ l : List τ, ctl (fun _ => c) l = c * l.length
  | [] => by simp [ctl]
  | x :: xs => by simp only [ctl, ctl_const c xs, List.length_cons]; rw [Int.natCast_add, Int.mul_add]; omega
theorem getD_get {xs : List τ} {i : Nat} {x d : τ} (h : xs[i]? = some x) : xs.getD ((i : Int)).toNat d = x := by
  rw [Int.toNat_natCast, List.getD_eq_getElem?_getD, h]; rfl
end
theorem rd_get {xs : List Int} {i : Nat} {x : Int} (h : xs[i]? = some x) : rd xs i = x := getD_get h
end Go.Proofs.YtgnmdhkkbkoghaaZ
section
set_option linter.unusedSimpArgs false
set_option linter.unusedVariables false
namespace Go.Proofs.Ytgnmdhkkbkoghaa.P
open Go.RowKit Go.Proofs.YtgnmdhkkbkoghaaW.PrintWords Go.Proofs.YtgnmdhkkbkoghaaW.PrintLast Go.Proofs.YtgnmdhkkbkoghaaZ
abbrev iV := S28
theorem eqValueS_ev (l : List iV) (hl : l.length ≤ 9223372036854775807) : Ev (fun k => laws_eqValueS.f k l l) true := by
  simp only [laws_eqValueS.f, if_true]
  refine look_ev l true (g := fun k i => laws_eqValueS.l0 k l l i) ?_ ?_
  · refine Ev.shift ?_
    simp only [laws_eqValueS.l0, Int.lt_irrefl, if_false]
    exact Ev.now _
  · intro i x hx hi h
    refine Ev.shift ?_
    have d1 : (i : Int) < (l.length : Int) := by omega
    have d2 : (0 : Int) ≤ (i : Int) := by omega
    simp only [laws_eqValueS.l0, laws_eqValue.f, Option.bind_some, d1, d2, if_true, succ64 hi hl]
    exact h
end Go.Proofs.Ytgnmdhkkbkoghaa.P
end
section
set_option linter.unusedSimpArgs false
set_option linter.unusedVariables false
namespace Go.Proofs.Ytgnmdhkkbkoghaa.P
open Go.RowKit Go.Proofs.YtgnmdhkkbkoghaaW.PrintWords Go.Proofs.YtgnmdhkkbkoghaaW.PrintLast Go.Proofs.YtgnmdhkkbkoghaaZ
def okV (a : iV) : Bool := (a.f0 == 0 && a.f1 == 0 && a.f2.size == 0) || (a.f0 == 1 && decide (0 ≤ a.f1 ∧ a.f1 ≤ 1) && a.f2.size == 0) || (a.f0 == 2 && decide (-1000000000000 ≤ a.f1 ∧ a.f1 ≤ 1000000000000) && a.f2.size == 0) || (a.f0 == 3 && a.f1 == 0 && decide (a.f2.size ≤ 20))
theorem ba_nil (s : ByteArray) : (s.toList == ([] : List UInt8)) = (s.size == 0) := by
  rw [ByteArray.toList_eq, Bool.eq_iff_iff]
  simp only [beq_iff_eq]
  constructor
  · intro h; show s.data.size = 0; rw [← Array.length_toList, h]; rfl
  · intro h; apply List.eq_nil_of_length_eq_zero; rw [Array.length_toList]; exact h
theorem spec_ValueOk_eq (a : iV) : spec_ValueOk.f a.f0 a.f1 a.f2 = some (okV a) := by
  simp only [spec_ValueOk.f, spec_l1In.f, okV, ba_nil]
  by_cases h0 : a.f0 = 0
  · by_cases h1 : a.f1 = 0 <;> simp [h0, h1]
  · by_cases h1 : a.f0 = 1
    · by_cases h2 : a.f1 ≥ 0 <;> by_cases h3 : a.f1 ≤ 1 <;> simp [h0, h1, h2, h3]
    · by_cases h2 : a.f0 = 2
      · by_cases h4 : a.f1 ≥ (-1000000000000) <;> by_cases h3 : a.f1 ≤ 1000000000000 <;> simp [h0, h1, h2, h3, h4]
      · by_cases h3 : a.f0 = 3
        · by_cases h4 : a.f1 = 0
          · simp [h3, h4]; omega
          · simp [h3, h4]
        · simp [h0, h1, h2, h3]
theorem impl_ValueOk_eq (a : iV) : impl_ValueOk.f a.f0 a.f1 a.f2 = some (okV a) := spec_ValueOk_eq a
end Go.Proofs.Ytgnmdhkkbkoghaa.P
end
section
set_option linter.unusedSimpArgs false
set_option linter.unusedVariables false
namespace Go.Proofs.Ytgnmdhkkbkoghaa.P
open Go.RowKit Go.Proofs.YtgnmdhkkbkoghaaW.PrintWords Go.Proofs.YtgnmdhkkbkoghaaW.PrintLast Go.Proofs.YtgnmdhkkbkoghaaZ
theorem rdV_at {l : List iV} {i : Nat} (h : i < l.length) : rd_T28 l (i : Int) = l[i] := getD_get (List.getElem?_eq_getElem h)
theorem drop_at {α : Type _} {l : List α} {i : Nat} (h : i < l.length) : l.drop i = l[i] :: l.drop (i + 1) := List.drop_eq_getElem_cons h
def okT (x : List iV) : Bool := x.all okV && decide (x.length ≤ 4)
theorem spec_TupleOk_ev (x : List iV) (hx : x.length ≤ 9223372036854775807) : Ev (fun k => spec_TupleOk.f k x) (okT x) := by
  simp only [spec_TupleOk.f]
  refine (back (n := x.length) (Q := fun i => Ev (fun k => spec_TupleOk.l0 k x (i : Int)) ((x.drop i).all okV && decide (x.length ≤ 4))) ?_ (fun i hi ih => ?_) 0 (Nat.zero_le _))
  · refine Ev.shift ?_
    simp only [spec_TupleOk.l0, Int.lt_irrefl, if_false, List.drop_length, List.all_nil, Bool.true_and]
    exact Ev.val (by congr 1; simp; omega)
  · have h0 : (0 : Int) ≤ (i : Int) := by omega
    have h1 : (i : Int) < (x.length : Int) := by omega
    refine Ev.shift ?_
    rw [drop_at hi]
    simp only [spec_TupleOk.l0, h0, h1, if_true, rdV_at hi, spec_ValueOk_eq, Option.bind_some, List.all_cons]
    cases h : okV x[i]
    · simp only [Bool.false_eq_true, if_false, Bool.false_and]; exact Ev.now _
    · simp only [if_true, Bool.true_and, succ64 hi hx]; exact ih
theorem impl_TupleOk_ev (x : List iV) (hx : x.length ≤ 9223372036854775807) : Ev (fun k => impl_TupleOk.f k x) (okT x) := by
  simp only [impl_TupleOk.f, okT]
  by_cases hl : x.length ≤ 4
  · have hl2 : (x.length : Int) ≤ 4 := by omega
    simp only [hl, hl2, if_true, decide_true, Bool.and_true]
    have key : ∀ i : Nat, i ≤ x.length → ∃ r : Int, Ev (fun k => impl_Value_69_59.l0 k x (x.length : Int) (i : Int)) r ∧ decide (r ≥ 0) = !((x.drop i).all okV) := by
      refine back ⟨-1, ?_, by simp⟩ fun i hi ih => ?_
      · refine Ev.shift ?_
        simp only [impl_Value_69_59.l0, Int.lt_irrefl, if_false]
        exact Ev.now _
      · obtain ⟨r, h, e⟩ := ih
        have h0 : (0 : Int) ≤ (i : Int) := by omega
        have h1 : (i : Int) < (x.length : Int) := by omega
        cases h2 : okV x[i]
        · refine ⟨i, Ev.shift ?_, ?_⟩
          · simp only [impl_Value_69_59.l0, impl_TupleOk_1.f, h0, h1, if_true, rdV_at hi, impl_ValueOk_eq, Option.bind_some, h2, Bool.not_false]
            exact Ev.now _
          · rw [drop_at hi, List.all_cons, h2]; simp
        · refine ⟨r, Ev.shift ?_, ?_⟩
          · simp only [impl_Value_69_59.l0, impl_TupleOk_1.f, h0, h1, if_true, rdV_at hi, impl_ValueOk_eq, Option.bind_some, h2, Bool.not_true, Bool.false_eq_true, if_false, succ64 hi hx]
            exact h
          · rw [drop_at hi, List.all_cons, h2, e]; simp
    obtain ⟨r, h, e⟩ := key 0 (Nat.zero_le _)
    simp only [List.drop_zero] at e
    simp only [impl_Value_58_59.f, impl_Value_69_59.f]
    refine Ev.bind (Ev.bind h (Ev.now _)) ?_
    rw [e, Bool.not_not]
    exact Ev.now _
  · have hl2 : ¬ (x.length : Int) ≤ 4 := by omega
    simp only [hl, hl2, if_false, decide_false, Bool.and_false]
    exact Ev.now _
end Go.Proofs.Ytgnmdhkkbkoghaa.P
end
section
set_option linter.unusedSimpArgs false
set_option linter.unusedVariables false
namespace Go.Proofs.Ytgnmdhkkbkoghaa.P
open Go.RowKit Go.Proofs.YtgnmdhkkbkoghaaW.PrintWords Go.Proofs.YtgnmdhkkbkoghaaW.PrintLast Go.Proofs.YtgnmdhkkbkoghaaW.PrintMore Go.Proofs.YtgnmdhkkbkoghaaZ
def byts (s : ByteArray) : List Int := s.data.toList.map fun u => (u.toNat : Int)
theorem byts_length (s : ByteArray) : (byts s).length = s.size := by unfold byts; rw [List.length_map, Array.length_toList]; rfl
theorem byts_get (s : ByteArray) (i : Nat) (h : i < (byts s).length) : (byts s)[i] = bt s (i : Int) := by
  have h2 : i < s.size := by rw [byts_length] at h; exact h
  have e : (byts s)[i] = ((s.data.toList[i]'(by rw [Array.length_toList]; exact h2)).toNat : Int) := List.getElem_map ..
  rw [e]
  unfold bt
  rw [dif_pos (show (i : Int).toNat < s.size from h2)]
  rfl
theorem byts_str (s : ByteArray) : strOfNums (byts s) = s := by
  cases s with
  | mk d =>
    simp only [strOfNums, byts, List.map_map]
    congr 1
    have : ((fun n : Int => UInt8.ofNat n.toNat) ∘ fun u : UInt8 => (u.toNat : Int)) = id := by
      funext u; simp
    rw [this, List.map_id]
theorem byts_drop (s : ByteArray) {i : Nat} (h : i < s.size) : (byts s).drop i = bt s (i : Int) :: (byts s).drop (i + 1) := by
  have h' : i < (byts s).length := by rw [byts_length]; exact h
  rw [drop_at h', byts_get s i h']
def be (v : Int) : Nat → List Int
  | 0 => []
  | j + 1 => (v / 2 ^ (8 * j)) % 256 :: be v j
theorem be_length (v : Int) : ∀ j, (be v j).length = j
  | 0 => rfl
  | j + 1 => by simp only [be, List.length_cons, be_length v j]
def esc : List Int → List Int
  | [] => [0, 1]
  | b :: r => b :: (if b = 0 then 255 :: esc r else esc r)
theorem esc_length : ∀ l, (esc l).length ≤ 2 * l.length + 2
  | [] => by simp [esc]
  | b :: r => by
    have := esc_length r
    simp only [esc]
    split <;> simp only [List.length_cons] <;> omega
def encV (a : iV) : List Int :=
  ((a.f0 + 1) % 256) :: (if a.f0 = 1 then [a.f1 % 256] else if a.f0 = 2 then be (a.f1 + 4611686018427387904) 8 else if a.f0 = 3 then esc (byts a.f2) else [])
theorem okV_kind {a : iV} (h : okV a = true) : a.f0 = 0 ∨ (a.f0 = 1 ∧ 0 ≤ a.f1 ∧ a.f1 ≤ 1) ∨ (a.f0 = 2 ∧ -1000000000000 ≤ a.f1 ∧ a.f1 ≤ 1000000000000) ∨ (a.f0 = 3 ∧ a.f1 = 0 ∧ a.f2.size ≤ 20) := by
  simp only [okV, Bool.or_eq_true, Bool.and_eq_true, beq_iff_eq, decide_eq_true_eq] at h
  omega
theorem encV_length {a : iV} (h : okV a = true) : (encV a).length ≤ 43 := by
  unfold encV
  have hk := okV_kind h
  split
  · simp
  · split
    · simp [be_length]
    · split
      · have := esc_length (byts a.f2); rw [byts_length] at this; simp only [List.length_cons]; omega
      · simp
def encs (l : List iV) : List Int := l.flatMap encV
theorem encs_length : ∀ {l : List iV}, (∀ a ∈ l, okV a = true) → (encs l).length ≤ 43 * l.length
  | [], _ => by simp [encs]
  | a :: l, h => by
    have h1 := encV_length (h a (by simp))
    have h2 := encs_length (l := l) (fun b hb => h b (by simp [hb]))
    simp only [encs, List.flatMap_cons, List.length_append, List.length_cons] at h2 ⊢
    omega
theorem encs_take {l : List iV} {i : Nat} (h : i < l.length) : encs (l.take (i + 1)) = encs (l.take i) ++ encV l[i] := by
  rw [← List.take_append_getElem h]
  simp only [encs, List.flatMap_append, List.flatMap_cons, List.flatMap_nil, List.append_nil]
def tbytes (l : List iV) : List Int := if okT l = true then encs l else []
theorem okT_mem {l : List iV} (h : okT l = true) : (∀ a ∈ l, okV a = true) ∧ l.length ≤ 4 := by
  simp only [okT, Bool.and_eq_true, List.all_eq_true, decide_eq_true_eq] at h
  exact h
theorem and255 {x : Int} (h0 : 0 ≤ x) (h1 : x < 2 ^ 63) : Go.bits .and .i64 x 255 = x % 256 :=
  bits_mask .i64 63 (by decide) (fun n a b => by rw [IntKind.wrap_i64]; omega) 8 (by decide) x h0 h1
theorem shr_be (v : Int) (j : Nat) (h : j < 8) : shr .i64 v (8 * (j : Int)) = v / 2 ^ (8 * j) := by
  unfold shr
  have : min (8 * (j : Int)).toNat IntKind.i64.bits = 8 * j := by
    have e : (8 * (j : Int)).toNat = 8 * j := by omega
    rw [e]
    exact Nat.min_eq_left (by show 8 * j ≤ 64; omega)
  rw [this]
theorem div_lt {v : Int} (h0 : 0 ≤ v) (h1 : v < 2 ^ 63) (n : Nat) : 0 ≤ v / 2 ^ n ∧ v / 2 ^ n < 2 ^ 63 := by
  have hp : (0 : Int) < 2 ^ n := Int.pow_pos (by decide)
  exact ⟨Int.ediv_nonneg h0 (Int.le_of_lt hp), Int.lt_of_le_of_lt (Int.ediv_le_self _ h0) h1⟩
theorem spec_be_ev (v : Int) (h0 : 0 ≤ v) (h1 : v < 2 ^ 63) : ∀ (j : Nat) (out : List Int), j ≤ 8 → out.length + j ≤ 1000 → Ev (fun k => spec_l18Value.l0 k out v (8 * (j : Int) - 8)) (out ++ be v j) := by
  intro j
  induction j with
  | zero =>
    intro out _ _
    refine Ev.shift ?_
    have : ¬ (8 * ((0 : Nat) : Int) - 8 ≥ 0) := by omega
    simp only [spec_l18Value.l0, this, if_false, be, List.append_nil]
    exact Ev.now _
  | succ j ih =>
    intro out hj hl
    refine Ev.shift ?_
    have e : 8 * ((j + 1 : Nat) : Int) - 8 = 8 * (j : Int) := by omega
    have c1 : 8 * (j : Int) ≥ 0 := by omega
    have c2 : out.length < 140737488355328 := by omega
    have hd := div_lt h0 h1 (8 * j)
    rw [e]
    have c3 : (0 : Int) ≤ 8 * (j : Int) := c1
    simp only [spec_l18Value.l0, c1, c2, c3, if_true, shr_be v j (by omega), and255 hd.1 hd.2, w64 (n := 8 * (j : Int) - 8) (by omega) (by omega), Int.emod_emod_of_dvd _ (Int.dvd_refl 256)]
    have := ih (out ++ [v / 2 ^ (8 * j) % 256]) (by omega) (by simp only [List.length_append, List.length_cons, List.length_nil]; omega)
    rw [List.append_assoc] at this
    exact this
theorem spec_esc_ev (a b : Int) (s : ByteArray) : ∀ (n i : Nat) (out : List Int), i + n = s.size → out.length + 2 * n ≤ 1000 → i + n ≤ 1000 → Ev (fun k => spec_l18Value.l1 k out (i : Int) a b s) (out ++ esc ((byts s).drop i)) := by
  intro n
  induction n with
  | zero =>
    intro i out hi hl _
    refine Ev.shift ?_
    have c : ¬ ((i : Int) < (s.size : Int)) := by omega
    have c2 : out.length + [(0 : Int), 1].length < 140737488355328 := by simp only [List.length_cons, List.length_nil]; omega
    rw [List.drop_eq_nil_of_le (by rw [byts_length]; omega)]
    simp only [spec_l18Value.l1, c, if_false, Option.bind_some, c2, if_true, esc]
    exact Ev.now _
  | succ n ih =>
    intro i out hi hl hin
    refine Ev.shift ?_
    have c : ((i : Int) < (s.size : Int)) := by omega
    have c1 : (0 : Int) ≤ (i : Int) := by omega
    have c2 : out.length < 140737488355328 := by omega
    have c3 : (out ++ [bt s (i : Int)]).length < 140737488355328 := by simp only [List.length_append, List.length_cons, List.length_nil]; omega
    rw [byts_drop s (by omega)]
    simp only [spec_l18Value.l1, c, c1, c2, c3, if_true, Option.bind_some, esc, succ64 (show i < s.size by omega) (by omega)]
    by_cases hz : bt s (i : Int) = 0
    · have := ih (i + 1) ((out ++ [bt s (i : Int)]) ++ [255]) (by omega) (by simp only [List.length_append, List.length_cons, List.length_nil]; omega) (by omega)
      simp only [List.append_assoc, List.cons_append, List.nil_append] at this
      simp only [hz, if_true, List.append_assoc, List.cons_append, List.nil_append] at this ⊢
      exact this
    · have := ih (i + 1) (out ++ [bt s (i : Int)]) (by omega) (by simp only [List.length_append, List.length_cons, List.length_nil]; omega) (by omega)
      simp only [List.append_assoc, List.cons_append, List.nil_append] at this
      simp only [hz, if_false, List.append_assoc, List.cons_append, List.nil_append]
      exact this
theorem spec_l18Value_ev {a : iV} (h : okV a = true) : Ev (fun k => spec_l18Value.f k a.f0 a.f1 a.f2) (encV a) := by
  have hk := okV_kind h
  have hw : wrap64 (a.f0 + 1) = a.f0 + 1 := w64 (by omega) (by omega)
  have c2 : [(a.f0 + 1) % 256].length < 140737488355328 := by simp
  simp only [spec_l18Value.f, Option.bind_some, hw, encV]
  by_cases h1 : a.f0 = 1
  · simp only [h1, if_true, show [((1 : Int) + 1) % 256].length < 140737488355328 by decide]
    exact Ev.now _
  · by_cases h2 : a.f0 = 2
    · have h3 := spec_be_ev (a.f1 + 4611686018427387904) (by omega) (by omega) 8 [(a.f0 + 1) % 256] (by omega) (by simp)
      simp only [h1, h2, if_true, if_false, w64 (n := a.f1 + 4611686018427387904) (by omega) (by omega)] at h3 ⊢
      exact h3
    · by_cases h4 : a.f0 = 3
      · have h3 := spec_esc_ev a.f0 a.f1 a.f2 a.f2.size 0 [(a.f0 + 1) % 256] (by omega) (by simp only [List.length_cons, List.length_nil]; omega) (by omega)
        simp only [List.drop_zero] at h3
        simp only [h4, show ¬ (3 : Int) = 1 by decide, show ¬ (3 : Int) = 2 by decide, if_true, if_false] at h3 ⊢
        exact h3
      · simp only [h1, h2, h4, if_false]
        exact Ev.now _
theorem spec_TupleBytes_ev (l : List iV) (hl : l.length ≤ 9223372036854775807) : Ev (fun k => spec_TupleBytes.f k l) (tbytes l) := by
  simp only [spec_TupleBytes.f, tbytes]
  by_cases h : okT l = true
  · rw [if_pos h]
    obtain ⟨hm, hl4⟩ := okT_mem h
    refine (back (n := l.length) (Q := fun i => Ev (fun k => spec_TupleBytes.l0 k l (encs (l.take i)) (i : Int)) (encs l)) ?_ (fun i hi ih => ?_) 0 (Nat.zero_le _))
    · refine Ev.shift ?_
      simp only [spec_TupleBytes.l0, Int.lt_irrefl, if_false, List.take_length]
      exact Ev.now _
    · have h0 : (0 : Int) ≤ (i : Int) := by omega
      have h1 : (i : Int) < (l.length : Int) := by omega
      have hok : okV l[i] = true := hm _ (List.getElem_mem hi)
      have hs := encs_length (l := l.take i) (fun a ha => hm a (List.mem_of_mem_take ha))
      rw [List.length_take] at hs
      have hv := encV_length hok
      have c : (encs (l.take i)).length + (encV l[i]).length < 140737488355328 := by omega
      rw [encs_take hi] at ih
      refine Ev.shift ?_
      simp only [spec_TupleBytes.l0, h0, h1, if_true, rdV_at hi]
      refine Ev.bind (spec_TupleOk_ev l hl) ?_
      simp only [h, if_true]
      refine Ev.bind (spec_l18Value_ev hok) ?_
      simp only [c, if_true, succ64 hi hl]
      exact ih
  · rw [if_neg h]
    refine Ev.shift ?_
    by_cases hn : (0 : Int) < (l.length : Int)
    · simp only [spec_TupleBytes.l0, hn, if_true]
      refine Ev.bind (spec_TupleOk_ev l hl) ?_
      simp only [h, if_false]
      exact Ev.now _
    · simp only [spec_TupleBytes.l0, hn, if_false]
      exact Ev.now _
theorem impl_be_ev (x13 : List iV) (x14 x15 : Int) (a b : Int) (s : ByteArray) (h0 : 0 ≤ b + 4611686018427387904) (h1 : b + 4611686018427387904 < 2 ^ 63) (r : List Int) : ∀ (j : Nat) (out : List Int), j ≤ 8 → out.length + j ≤ 1000 →
    Ev (fun k => impl_TupleBytes.l0 k (out ++ be (b + 4611686018427387904) j) x13 x14 (wrap64 (x15 + 1))) r →
    Ev (fun k => impl_TupleBytes.l1 k out ((j : Int) - 1) x13 x14 x15 a b s) r := by
  intro j
  induction j with
  | zero =>
    intro out _ _ hr
    refine Ev.shift ?_
    have : ¬ (((0 : Nat) : Int) - 1 ≥ 0) := by omega
    simp only [impl_TupleBytes.l1, this, if_false]
    simp only [be, List.append_nil] at hr
    exact hr
  | succ j ih =>
    intro out hj hl hr
    refine Ev.shift ?_
    have e : ((j + 1 : Nat) : Int) - 1 = (j : Int) := by omega
    have c1 : (j : Int) ≥ 0 := by omega
    have c2 : out.length < 140737488355328 := by omega
    have c3 : (0 : Int) ≤ 8 * (j : Int) := by omega
    rw [e]
    simp only [impl_TupleBytes.l1, c1, c2, if_true, w64 (n := 8 * (j : Int)) (by omega) (by omega), c3, w64 (n := b + 4611686018427387904) (by omega) (by omega), shr_be _ j (by omega), w64 (n := (j : Int) - 1) (by omega) (by omega)]
    refine ih (out ++ [(b + 4611686018427387904) / 2 ^ (8 * j) % 256]) (by omega) (by simp only [List.length_append, List.length_cons, List.length_nil]; omega) ?_
    rw [List.append_assoc]
    exact hr
theorem impl_esc_ev (x13 : List iV) (x14 x15 : Int) (a b : Int) (s : ByteArray) (r : List Int) : ∀ (n i : Nat) (out : List Int), i + n = s.size → out.length + 2 * n ≤ 1000 → i + n ≤ 1000 →
    Ev (fun k => impl_TupleBytes.l0 k (out ++ esc ((byts s).drop i)) x13 x14 (wrap64 (x15 + 1))) r →
    Ev (fun k => impl_TupleBytes.l2 k out x13 x14 x15 (s.size : Int) (i : Int) a b s) r := by
  intro n
  induction n with
  | zero =>
    intro i out hi hl _ hr
    refine Ev.shift ?_
    have c : ¬ ((i : Int) < (s.size : Int)) := by omega
    have c2 : out.length + [(0 : Int), 1].length < 140737488355328 := by simp only [List.length_cons, List.length_nil]; omega
    rw [List.drop_eq_nil_of_le (by rw [byts_length]; omega)] at hr
    simp only [impl_TupleBytes.l2, c, if_false, Option.bind_some, c2, if_true]
    simp only [esc] at hr
    exact hr
  | succ n ih =>
    intro i out hi hl hin hr
    refine Ev.shift ?_
    have c : ((i : Int) < (s.size : Int)) := by omega
    have c1 : (0 : Int) ≤ (i : Int) := by omega
    have c2 : out.length < 140737488355328 := by omega
    have c3 : (out ++ [bt s (i : Int)]).length < 140737488355328 := by simp only [List.length_append, List.length_cons, List.length_nil]; omega
    rw [byts_drop s (by omega)] at hr
    simp only [impl_TupleBytes.l2, c, c1, c2, c3, if_true, Option.bind_some, succ64 (show i < s.size by omega) (by omega)]
    simp only [esc] at hr
    by_cases hz : bt s (i : Int) = 0
    · simp only [hz, if_true] at hr ⊢
      refine ih (i + 1) ((out ++ [0]) ++ [255]) (by omega) (by simp only [List.length_append, List.length_cons, List.length_nil]; omega) (by omega) ?_
      simp only [List.append_assoc, List.cons_append, List.nil_append]
      exact hr
    · simp only [hz, if_false] at hr ⊢
      refine ih (i + 1) (out ++ [bt s (i : Int)]) (by omega) (by simp only [List.length_append, List.length_cons, List.length_nil]; omega) (by omega) ?_
      simp only [List.append_assoc, List.cons_append, List.nil_append]
      exact hr
theorem impl_TupleBytes_ev (l : List iV) (hl : l.length ≤ 9223372036854775807) : Ev (fun k => impl_TupleBytes.f k l) (tbytes l) := by
  simp only [impl_TupleBytes.f, tbytes, Option.bind_some]
  refine Ev.bind (impl_TupleOk_ev l hl) ?_
  by_cases h : okT l = true
  · rw [if_pos h]
    simp only [h, if_true]
    obtain ⟨hm, hl4⟩ := okT_mem h
    refine (back (n := l.length) (Q := fun i => Ev (fun k => impl_TupleBytes.l0 k (encs (l.take i)) l (l.length : Int) (i : Int)) (encs l)) ?_ (fun i hi ih => ?_) 0 (Nat.zero_le _))
    · refine Ev.shift ?_
      simp only [impl_TupleBytes.l0, Int.lt_irrefl, if_false, List.take_length]
      exact Ev.now _
    · have h0 : (0 : Int) ≤ (i : Int) := by omega
      have h1 : (i : Int) < (l.length : Int) := by omega
      have hok : okV l[i] = true := hm _ (List.getElem_mem hi)
      have hk := okV_kind hok
      have hs := encs_length (l := l.take i) (fun a ha => hm a (List.mem_of_mem_take ha))
      rw [List.length_take] at hs
      have c : (encs (l.take i)).length < 140737488355328 := by omega
      have hw : wrap64 (l[i].f0 + 1) = l[i].f0 + 1 := w64 (by omega) (by omega)
      have c2 : (encs (l.take i) ++ [(l[i].f0 + 1) % 256]).length < 140737488355328 := by simp only [List.length_append, List.length_cons, List.length_nil]; omega
      rw [encs_take hi] at ih
      simp only [encV] at ih
      refine Ev.shift ?_
      simp only [impl_TupleBytes.l0, h0, h1, c, c2, if_true, rdV_at hi, hw, Option.bind_some]
      by_cases g1 : l[i].f0 = 1
      · simp only [g1, if_true, succ64 hi hl] at ih c2 ⊢
        simp only [c2, if_true, List.append_assoc, List.cons_append, List.nil_append]
        exact ih
      · by_cases g2 : l[i].f0 = 2
        · simp only [g1, g2, if_true, if_false, show ¬ (2 : Int) = 1 by decide] at ih ⊢
          refine impl_be_ev l (l.length : Int) (i : Int) 2 l[i].f1 l[i].f2 (by omega) (by omega) _ 8 _ (by omega) (by simp only [List.length_append, List.length_cons, List.length_nil]; omega) ?_
          simp only [List.append_assoc, List.cons_append, List.nil_append, succ64 hi hl]
          exact ih
        · by_cases g3 : l[i].f0 = 3
          · simp only [g3, if_true, if_false, show ¬ (3 : Int) = 1 by decide, show ¬ (3 : Int) = 2 by decide] at ih ⊢
            refine impl_esc_ev l (l.length : Int) (i : Int) 3 l[i].f1 l[i].f2 _ l[i].f2.size 0 _ (by omega) (by simp only [List.length_append, List.length_cons, List.length_nil]; omega) (by omega) ?_
            simp only [List.append_assoc, List.cons_append, List.nil_append, succ64 hi hl, List.drop_zero]
            exact ih
          · simp only [g1, g2, g3, if_false, succ64 hi hl] at ih ⊢
            exact ih
  · rw [if_neg h]
    simp only [h, if_false]
    exact Ev.now _
end Go.Proofs.Ytgnmdhkkbkoghaa.P
end
section
set_option linter.unusedSimpArgs false
set_option linter.unusedVariables false
namespace Go.Proofs.Ytgnmdhkkbkoghaa.P
open Go.RowKit Go.Proofs.YtgnmdhkkbkoghaaW.PrintWords Go.Proofs.YtgnmdhkkbkoghaaW.PrintLast Go.Proofs.YtgnmdhkkbkoghaaW.PrintMore Go.Proofs.YtgnmdhkkbkoghaaZ
theorem at_drop {x : List Int} {p : Nat} {a : Int} {t : List Int} (h : x.drop p = a :: t) : p < x.length ∧ rd x (p : Int) = a ∧ x.drop (p + 1) = t := by
  have h1 : p < x.length := by
    apply Classical.byContradiction
    intro hn
    rw [List.drop_eq_nil_of_le (by omega)] at h
    cases h
  rw [drop_at h1] at h
  injection h with h2 h3
  exact ⟨h1, by rw [← h2]; exact rd_get (List.getElem?_eq_getElem h1), h3⟩
def isB (x : List Int) : Prop := ∀ b ∈ x, 0 ≤ b ∧ b < 256
theorem wrap_u64 {n : Int} (a : 0 ≤ n) (b : n < 2 ^ 64) : IntKind.u64.wrap n = n := by
  have e : IntKind.u64.wrap n = n % 18446744073709551616 := by simp [IntKind.wrap, IntKind.bits, IntKind.signed]
  rw [e]; omega
theorem be_step (v : Int) (j : Nat) : v / 2 ^ (8 * (j + 1)) * 256 + v / 2 ^ (8 * j) % 256 = v / 2 ^ (8 * j) := by
  have e : (2 : Int) ^ (8 * (j + 1)) = 2 ^ (8 * j) * 256 := by rw [Nat.mul_add, Int.pow_add]; rfl
  rw [e, ← Int.ediv_ediv_of_nonneg (Int.le_of_lt (Int.pow_pos (by decide)))]
  omega
theorem impl_text_ev (x : List Int) (hx : x.length ≤ 1048576) (rest : List Int) : ∀ (bs : List Int) (p : Nat) (out : List Int), x.drop p = esc bs ++ rest → out.length ≤ p →
    Ev (fun k => impl_takeText.l0 k x out (p : Int)) (strOfNums (out ++ bs), rest) := by
  intro bs
  induction bs with
  | nil =>
    intro p out h hl
    simp only [esc, List.cons_append, List.nil_append] at h
    obtain ⟨h1, h2, h3⟩ := at_drop h
    obtain ⟨h4, h5, h6⟩ := at_drop h3
    refine Ev.shift ?_
    have c0 : (p : Int) < (x.length : Int) := by omega
    have c1 : (0 : Int) ≤ (p : Int) := by omega
    have w1 : wrap64 ((p : Int) + 1) = ((p + 1 : Nat) : Int) := succ64 h1 (by omega)
    have w2 : wrap64 ((p : Int) + 2) = ((p + 1 + 1 : Nat) : Int) := by rw [w64 (by omega) (by omega)]; omega
    have c2 : ((p + 1 : Nat) : Int) < (x.length : Int) := by omega
    have c3 : (0 : Int) ≤ ((p + 1 : Nat) : Int) := by omega
    have c4 : ((p + 1 + 1 : Nat) : Int) ≤ (x.length : Int) := by omega
    have c5 : (0 : Int) ≤ ((p + 1 + 1 : Nat) : Int) := by omega
    simp only [impl_takeText.l0, w1, w2, c0, c1, c2, c3, c4, c5, h2, h5, if_true, Int.toNat_natCast, h6, List.append_nil]
    exact Ev.now _
  | cons b r ih =>
    intro p out h hl
    by_cases hb : b = 0
    · subst hb
      simp only [esc, if_true, List.cons_append] at h
      obtain ⟨h1, h2, h3⟩ := at_drop h
      obtain ⟨h4, h5, h6⟩ := at_drop h3
      refine Ev.shift ?_
      have c0 : (p : Int) < (x.length : Int) := by omega
      have c1 : (0 : Int) ≤ (p : Int) := by omega
      have w1 : wrap64 ((p : Int) + 1) = ((p + 1 : Nat) : Int) := succ64 h1 (by omega)
      have w2 : wrap64 (((p + 1 : Nat) : Int) + 1) = ((p + 1 + 1 : Nat) : Int) := succ64 h4 (by omega)
      have c2 : ((p + 1 : Nat) : Int) < (x.length : Int) := by omega
      have c3 : (0 : Int) ≤ ((p + 1 : Nat) : Int) := by omega
      have c4 : out.length < 140737488355328 := by omega
      simp only [impl_takeText.l0, w1, w2, c0, c1, c2, c3, c4, h2, h5, if_true, show ¬ (255 : Int) = 1 by decide, if_false]
      have := ih (p + 1 + 1) (out ++ [0]) h6 (by simp only [List.length_append, List.length_cons, List.length_nil]; omega)
      rw [List.append_assoc] at this
      exact this
    · simp only [esc, hb, if_false, List.cons_append] at h
      obtain ⟨h1, h2, h3⟩ := at_drop h
      refine Ev.shift ?_
      have c0 : (p : Int) < (x.length : Int) := by omega
      have c1 : (0 : Int) ≤ (p : Int) := by omega
      have w1 : wrap64 ((p : Int) + 1) = ((p + 1 : Nat) : Int) := succ64 h1 (by omega)
      have c4 : out.length < 140737488355328 := by omega
      simp only [impl_takeText.l0, w1, c0, c1, c4, h2, hb, if_true, if_false]
      have := ih (p + 1) (out ++ [b]) h3 (by simp only [List.length_append, List.length_cons, List.length_nil]; omega)
      rw [List.append_assoc] at this
      exact this
theorem impl_be_read (x : List Int) (a b : Int) (s : ByteArray) (v : Int) (h0 : 0 ≤ v) (h1 : v < 2 ^ 63) (hx : 8 ≤ x.length) : ∀ (j p : Nat), p + j = 8 → (x.take 8).drop p = be v j →
    Ev (fun k => impl_takeValue.l0 k x (v / 2 ^ (8 * j)) (x.take 8) (8 : Int) (p : Int) a b s) (a, wrap64 (v - 4611686018427387904), s, x.drop 8) := by
  intro j
  induction j with
  | zero =>
    intro p hp h
    refine Ev.shift ?_
    have c : ¬ ((p : Int) < 8) := by omega
    have c2 : (8 : Int) ≤ (x.length : Int) := by omega
    have e : v / 2 ^ (8 * 0) = v := by omega
    simp only [impl_takeValue.l0, c, c2, if_true, if_false, e, w64 (n := v) (by omega) (by omega)]
    exact Ev.now _
  | succ j ih =>
    intro p hp h
    simp only [be] at h
    obtain ⟨g1, g2, g3⟩ := at_drop h
    have c0 : (p : Int) < 8 := by omega
    have c1 : (0 : Int) ≤ (p : Int) := by omega
    have c2 : (p : Int) < ((x.take 8).length : Int) := by omega
    have hd := div_lt h0 h1 (8 * (j + 1))
    have hs := be_step v j
    have hd2 := div_lt h0 h1 (8 * j)
    refine Ev.shift ?_
    have hlt : v / 2 ^ (8 * (j + 1)) < 2 ^ 55 := by omega
    have e : Go.bits .or .u64 (IntKind.u64.wrap (v / 2 ^ (8 * (j + 1)) * 256)) (IntKind.u64.wrap (v / 2 ^ (8 * j) % 256)) = v / 2 ^ (8 * j) := by
      have hu : ∀ n : Int, 0 ≤ n → n < 2 ^ 64 → IntKind.u64.wrap n = n := fun n a b => wrap_u64 a b
      rw [hu _ (by omega) (by omega), hu (v / 2 ^ (8 * j) % 256) (by omega) (by omega)]
      rw [bits_join .u64 64 (by decide) hu 8 (v / 2 ^ (8 * (j + 1)) * 256) (v / 2 ^ (8 * j) % 256) (by omega) (by omega) (by omega) (by omega) (by omega) (by omega)]
      exact hs
    simp only [impl_takeValue.l0, c0, c1, c2, g2, e, if_true, succ64 (show p < 8 by omega) (by omega)]
    exact ih (p + 1) (by omega) g3
theorem okV_full {a : iV} (h : okV a = true) : (a.f0 = 0 ∧ a.f1 = 0 ∧ a.f2 = ⟨#[]⟩) ∨ (a.f0 = 1 ∧ 0 ≤ a.f1 ∧ a.f1 ≤ 1 ∧ a.f2 = ⟨#[]⟩) ∨ (a.f0 = 2 ∧ -1000000000000 ≤ a.f1 ∧ a.f1 ≤ 1000000000000 ∧ a.f2 = ⟨#[]⟩) ∨ (a.f0 = 3 ∧ a.f1 = 0 ∧ a.f2.size ≤ 20) := by
  have hz : ∀ s : ByteArray, s.size = 0 → s = ⟨#[]⟩ := fun s hs => by
    cases s with
    | mk d => congr 1; exact Array.eq_empty_of_size_eq_zero hs
  simp only [okV, Bool.or_eq_true, Bool.and_eq_true, beq_iff_eq, decide_eq_true_eq] at h
  rcases h with ((⟨⟨h1, h2⟩, h3⟩ | ⟨⟨h1, h2⟩, h3⟩) | ⟨⟨h1, h2⟩, h3⟩) | ⟨⟨h1, h2⟩, h3⟩
  · exact Or.inl ⟨h1, h2, hz _ h3⟩
  · exact Or.inr (Or.inl ⟨h1, h2.1, h2.2, hz _ h3⟩)
  · exact Or.inr (Or.inr (Or.inl ⟨h1, h2.1, h2.2, hz _ h3⟩))
  · exact Or.inr (Or.inr (Or.inr ⟨h1, h2, h3⟩))
theorem head_kind {n : Int} (h0 : 0 ≤ n) (h1 : n ≤ 3) : wrap64 (wrap64 ((n + 1) % 256) - 1) = n := by
  have : n = 0 ∨ n = 1 ∨ n = 2 ∨ n = 3 := by omega
  unfold wrap64; omega
theorem impl_take_ev {a : iV} (h : okV a = true) (x rest : List Int) (hx : x.length ≤ 1048576) (he : x = encV a ++ rest) : Ev (fun k => impl_takeValue.f k x) (a.f0, a.f1, a.f2, rest) := by
  have hxx : x.drop 0 = encV a ++ rest := by rw [List.drop_zero]; exact he
  simp only [encV, List.cons_append] at hxx
  obtain ⟨h1, h2, h3⟩ := at_drop hxx
  have c0 : (0 : Int) < (x.length : Int) := by omega
  have c1 : (1 : Int) ≤ (x.length : Int) := by omega
  have h2' : rd x 0 = (a.f0 + 1) % 256 := h2
  have hk : wrap64 (wrap64 (rd x 0) - 1) = a.f0 := by rw [h2']; have := okV_kind h; exact head_kind (by omega) (by omega)
  have h3' : x.drop 1 = _ := h3
  simp only [impl_takeValue.f, c0, c1, if_true, Option.bind_some, hk]
  rw [h3']
  rcases okV_full h with ⟨k0, k1, k2⟩ | ⟨k0, k1, k2, k3⟩ | ⟨k0, k1, k2, k3⟩ | ⟨k0, k1, k2⟩
  · simp only [k0, k1, k2, show ¬ (0 : Int) = 1 by decide, show ¬ (0 : Int) = 2 by decide, show ¬ (0 : Int) = 3 by decide, if_false, List.nil_append]
    refine Ev.shift ?_
    simp only [impl_takeValue.j0, Bool.false_eq_true, if_false, show ¬ (0 : Int) = 2 by decide]
    refine Ev.shift ?_
    simp only [impl_takeValue.j1, Bool.false_eq_true, if_false, show ¬ (0 : Int) = 3 by decide]
    exact Ev.now _
  · have e : a.f1 % 256 = a.f1 := by omega
    simp only [k0, k3, if_true, List.cons_append, List.nil_append, e]
    refine Ev.shift ?_
    have c2 : (0 : Int) < ((a.f1 :: rest).length : Int) := by simp only [List.length_cons]; omega
    have c3 : (1 : Int) ≤ ((a.f1 :: rest).length : Int) := by omega
    have c4 : ((a.f1 :: rest).length : Int) > 0 := c2
    have hr : rd (a.f1 :: rest) 0 = a.f1 := rfl
    simp only [impl_takeValue.j0, c2, c3, c4, decide_true, if_true, hr, w64 (n := a.f1) (by omega) (by omega), List.drop_succ_cons, List.drop_zero]
    exact Ev.now _
  · simp only [k0, k3, show ¬ (2 : Int) = 1 by decide, if_true, if_false]
    have hb := be_length (a.f1 + 4611686018427387904) 8
    have c2 : (8 : Int) ≤ ((be (a.f1 + 4611686018427387904) 8 ++ rest).length : Int) := by rw [List.length_append, hb]; omega
    have c3 : ((be (a.f1 + 4611686018427387904) 8 ++ rest).length : Int) ≥ 8 := c2
    have ht : (be (a.f1 + 4611686018427387904) 8 ++ rest).take 8 = be (a.f1 + 4611686018427387904) 8 := List.take_left' hb
    have hd : (be (a.f1 + 4611686018427387904) 8 ++ rest).drop 8 = rest := List.drop_left' hb
    refine Ev.shift ?_
    simp only [impl_takeValue.j0, Bool.false_eq_true, if_false, if_true]
    refine Ev.shift ?_
    simp only [impl_takeValue.j1, c2, c3, decide_true, if_true, Option.bind_some]
    have hl8 : (((be (a.f1 + 4611686018427387904) 8 ++ rest).take 8).length : Int) = 8 := by rw [ht, hb]; rfl
    rw [hl8]
    have := impl_be_read (be (a.f1 + 4611686018427387904) 8 ++ rest) 2 0 ⟨#[]⟩ (a.f1 + 4611686018427387904) (by omega) (by omega) (by omega) 8 0 (by omega) (by rw [List.drop_zero, ht])
    have e0 : (a.f1 + 4611686018427387904) / 2 ^ (8 * 8) = 0 := by omega
    have e1 : wrap64 (a.f1 + 4611686018427387904 - 4611686018427387904) = a.f1 := by rw [w64 (by omega) (by omega)]; omega
    rw [e0, e1, hd] at this
    exact this
  · simp only [k0, k1, show ¬ (3 : Int) = 1 by decide, show ¬ (3 : Int) = 2 by decide, if_true, if_false]
    refine Ev.shift ?_
    simp only [impl_takeValue.j0, Bool.false_eq_true, if_false, show ¬ (3 : Int) = 2 by decide]
    refine Ev.shift ?_
    simp only [impl_takeValue.j1, Bool.false_eq_true, if_false, if_true]
    have hlen : (esc (byts a.f2) ++ rest).length ≤ 1048576 := by
      have e : x.length = (encV a ++ rest).length := by rw [he]
      simp only [encV, k0, show ¬ (3 : Int) = 1 by decide, show ¬ (3 : Int) = 2 by decide, if_true, if_false, List.cons_append, List.length_cons] at e
      omega
    have := impl_text_ev (esc (byts a.f2) ++ rest) hlen rest (byts a.f2) 0 [] (by rw [List.drop_zero]) (by simp)
    rw [List.nil_append, byts_str] at this
    refine Ev.bind this ?_
    exact Ev.now _
theorem esc_two : ∀ l, 2 ≤ (esc l).length
  | [] => Nat.le_refl _
  | b :: r => by
    have := esc_two r
    simp only [esc]
    split <;> simp only [List.length_cons] <;> omega
theorem spec_text_ev (x : List Int) (hx : x.length ≤ 1048576) (rest : List Int) : ∀ (bs : List Int) (p : Nat) (out : List Int), x.drop p = esc bs ++ rest → out.length ≤ p →
    ∃ q : Nat, x.drop q = rest ∧ p ≤ q ∧ q ≤ x.length ∧ Ev (fun k => spec_l18Text.l0 k x (p : Int) out) (strOfNums (out ++ bs), (q : Int)) := by
  intro bs
  induction bs with
  | nil =>
    intro p out h hl
    simp only [esc, List.cons_append, List.nil_append] at h
    obtain ⟨h1, h2, h3⟩ := at_drop h
    obtain ⟨h4, h5, h6⟩ := at_drop h3
    refine ⟨p + 1 + 1, h6, by omega, by omega, Ev.shift ?_⟩
    have c0 : (p : Int) < (x.length : Int) := by omega
    have c1 : (0 : Int) ≤ (p : Int) := by omega
    have w1 : wrap64 ((p : Int) + 1) = ((p + 1 : Nat) : Int) := succ64 h1 (by omega)
    have w2 : wrap64 ((p : Int) + 2) = ((p + 1 + 1 : Nat) : Int) := by rw [w64 (by omega) (by omega)]; omega
    have c2 : ((p + 1 : Nat) : Int) < (x.length : Int) := by omega
    have c3 : (0 : Int) ≤ ((p + 1 : Nat) : Int) := by omega
    simp only [spec_l18Text.l0, w1, c0, c1, c2, c3, h2, h5, if_true]
    refine Ev.shift ?_
    simp only [spec_l18Text.j1, beq_self_eq_true, if_true, w2, List.append_nil]
    exact Ev.now _
  | cons b r ih =>
    intro p out h hl
    by_cases hb : b = 0
    · subst hb
      simp only [esc, if_true, List.cons_append] at h
      obtain ⟨h1, h2, h3⟩ := at_drop h
      obtain ⟨h4, h5, h6⟩ := at_drop h3
      obtain ⟨q, g1, g2, g3, g4⟩ := ih (p + 1 + 1) (out ++ [0]) h6 (by simp only [List.length_append, List.length_cons, List.length_nil]; omega)
      refine ⟨q, g1, by omega, g3, Ev.shift ?_⟩
      have c0 : (p : Int) < (x.length : Int) := by omega
      have c1 : (0 : Int) ≤ (p : Int) := by omega
      have w1 : wrap64 ((p : Int) + 1) = ((p + 1 : Nat) : Int) := succ64 h1 (by omega)
      have w2 : wrap64 (((p + 1 : Nat) : Int) + 1) = ((p + 1 + 1 : Nat) : Int) := succ64 h4 (by omega)
      have c2 : ((p + 1 : Nat) : Int) < (x.length : Int) := by omega
      have c3 : (0 : Int) ≤ ((p + 1 : Nat) : Int) := by omega
      have c4 : out.length < 140737488355328 := by omega
      simp only [spec_l18Text.l0, w1, c0, c1, c2, c3, h2, h5, if_true]
      refine Ev.shift ?_
      simp only [spec_l18Text.j1, show ((255 : Int) == 1) = false by decide, Bool.false_eq_true, if_false, c0, c1, c4, h2, if_true, Option.bind_some, w1, w2]
      rw [List.append_assoc] at g4
      exact g4
    · simp only [esc, hb, if_false, List.cons_append] at h
      obtain ⟨h1, h2, h3⟩ := at_drop h
      have hne : 2 ≤ (esc r ++ rest).length := by
        have := esc_two r
        rw [List.length_append]
        omega
      have h4 : p + 1 < x.length := by
        have e : (x.drop (p + 1)).length = (esc r ++ rest).length := by rw [h3]
        rw [List.length_drop] at e
        omega
      obtain ⟨q, g1, g2, g3, g4⟩ := ih (p + 1) (out ++ [b]) h3 (by simp only [List.length_append, List.length_cons, List.length_nil]; omega)
      refine ⟨q, g1, by omega, g3, Ev.shift ?_⟩
      have c0 : (p : Int) < (x.length : Int) := by omega
      have c1 : (0 : Int) ≤ (p : Int) := by omega
      have w1 : wrap64 ((p : Int) + 1) = ((p + 1 : Nat) : Int) := succ64 h1 (by omega)
      have c2 : ((p + 1 : Nat) : Int) < (x.length : Int) := by omega
      have c4 : out.length < 140737488355328 := by omega
      simp only [spec_l18Text.l0, w1, c0, c1, c2, h2, hb, if_true, if_false]
      refine Ev.shift ?_
      simp only [spec_l18Text.j1, Bool.false_eq_true, if_false, c0, c1, c4, h2, hb, if_true, Option.bind_some, w1]
      rw [List.append_assoc] at g4
      exact g4
theorem spec_be_read (x : List Int) (p0 : Nat) (a : Int) (s : ByteArray) (v : Int) (h0 : 0 ≤ v) (h1 : v < 2 ^ 63) (hx : x.length ≤ 1048576) (hp0 : p0 ≤ 1048576) (rest : List Int) : ∀ (j p : Nat), p + j = p0 + 9 → x.drop p = be v j ++ rest →
    Ev (fun k => spec_l18Read.l0 k x (p0 : Int) (p : Int) a (v / 2 ^ (8 * j)) s) (a, wrap64 (v - 4611686018427387904), s, ((p0 + 9 : Nat) : Int)) := by
  have w : wrap64 ((p0 : Int) + 9) = ((p0 + 9 : Nat) : Int) := by rw [w64 (by omega) (by omega)]; omega
  intro j
  induction j with
  | zero =>
    intro p hp h
    refine Ev.shift ?_
    have e : v / 2 ^ (8 * 0) = v := by omega
    have c : ¬ ((p : Int) < ((p0 + 9 : Nat) : Int)) := by omega
    simp only [spec_l18Read.l0, w, c, if_false, e]
    exact Ev.now _
  | succ j ih =>
    intro p hp h
    simp only [be, List.cons_append] at h
    obtain ⟨g1, g2, g3⟩ := at_drop h
    have c0 : (p : Int) < ((p0 + 9 : Nat) : Int) := by omega
    have c1 : (0 : Int) ≤ (p : Int) := by omega
    have c2 : (p : Int) < (x.length : Int) := by omega
    have hd := div_lt h0 h1 (8 * (j + 1))
    have hs := be_step v j
    have hd2 := div_lt h0 h1 (8 * j)
    refine Ev.shift ?_
    have e : Go.bits .or .i64 (wrap64 (v / 2 ^ (8 * (j + 1)) * 256)) (wrap64 (v / 2 ^ (8 * j) % 256)) = v / 2 ^ (8 * j) := by
      rw [w64 (n := v / 2 ^ (8 * (j + 1)) * 256) (by omega) (by omega), w64 (n := v / 2 ^ (8 * j) % 256) (by omega) (by omega)]
      rw [bits_join .i64 63 (by decide) (fun n a b => by rw [IntKind.wrap_i64]; omega) 8 (v / 2 ^ (8 * (j + 1)) * 256) (v / 2 ^ (8 * j) % 256) (by omega) (by omega) (by omega) (by omega) (by omega) (by omega)]
      exact hs
    simp only [spec_l18Read.l0, w, c0, c1, c2, g2, e, if_true, succ64 g1 (by omega)]
    exact ih (p + 1) (by omega) g3
theorem drop_le {x : List Int} {p : Nat} {l rest : List Int} (h : x.drop p = l ++ rest) (hl : l ≠ []) : p + l.length ≤ x.length := by
  have e : (x.drop p).length = (l ++ rest).length := by rw [h]
  rw [List.length_drop, List.length_append] at e
  have : 0 < l.length := List.length_pos_iff.mpr hl
  omega
theorem drop_more {x : List Int} {p : Nat} {l rest : List Int} (h : x.drop p = l ++ rest) : x.drop (p + l.length) = rest := by
  rw [← List.drop_drop, h]
  exact List.drop_left
theorem spec_read_ev {a : iV} (h : okV a = true) (x rest : List Int) (p : Nat) (hx : x.length ≤ 1048576) (he : x.drop p = encV a ++ rest) :
    ∃ q : Nat, x.drop q = rest ∧ p < q ∧ q ≤ x.length ∧ Ev (fun k => spec_l18Read.f k x (p : Int)) (a.f0, a.f1, a.f2, (q : Int)) := by
  simp only [encV, List.cons_append] at he
  obtain ⟨h1, h2, h3⟩ := at_drop he
  have c0 : (0 : Int) ≤ (p : Int) := by omega
  have c1 : (p : Int) < (x.length : Int) := by omega
  have hk : wrap64 (wrap64 (rd x (p : Int)) - 1) = a.f0 := by rw [h2]; have := okV_kind h; exact head_kind (by omega) (by omega)
  have w1 : wrap64 ((p : Int) + 1) = ((p + 1 : Nat) : Int) := succ64 h1 (by omega)
  have w2 : wrap64 ((p : Int) + 2) = ((p + 2 : Nat) : Int) := by rw [w64 (by omega) (by omega)]; omega
  simp only [spec_l18Read.f, c0, c1, if_true, hk, w1, w2]
  rcases okV_full h with ⟨k0, k1, k2⟩ | ⟨k0, k1, k2, k3⟩ | ⟨k0, k1, k2, k3⟩ | ⟨k0, k1, k2⟩
  · simp only [k0, k1, k2, show ¬ (0 : Int) = 1 by decide, show ¬ (0 : Int) = 2 by decide, show ¬ (0 : Int) = 3 by decide, if_false, if_true, List.nil_append] at h3 ⊢
    exact ⟨p + 1, h3, by omega, by omega, Ev.now _⟩
  · have e : a.f1 % 256 = a.f1 := by omega
    simp only [k0, k3, show ¬ (1 : Int) = 0 by decide, if_false, if_true, List.cons_append, List.nil_append, e] at h3 ⊢
    obtain ⟨g1, g2, g3⟩ := at_drop h3
    have c2 : ((p + 1 : Nat) : Int) < (x.length : Int) := by omega
    have c3 : (0 : Int) ≤ ((p + 1 : Nat) : Int) := by omega
    simp only [c2, c3, if_true, g2, w64 (n := a.f1) (by omega) (by omega)]
    exact ⟨p + 2, g3, by omega, by omega, Ev.now _⟩
  · simp only [k0, k3, show ¬ (2 : Int) = 0 by decide, show ¬ (2 : Int) = 1 by decide, if_true, if_false] at h3 ⊢
    have hne : be (a.f1 + 4611686018427387904) 8 ≠ [] := by intro e; have := be_length (a.f1 + 4611686018427387904) 8; rw [e] at this; cases this
    have hle := drop_le h3 hne
    have hmo := drop_more h3
    rw [be_length] at hle hmo
    have := spec_be_read x p 2 ⟨#[]⟩ (a.f1 + 4611686018427387904) (by omega) (by omega) hx (by omega) rest 8 (p + 1) (by omega) h3
    have e0 : (a.f1 + 4611686018427387904) / 2 ^ (8 * 8) = 0 := by omega
    have e1 : wrap64 (a.f1 + 4611686018427387904 - 4611686018427387904) = a.f1 := by rw [w64 (by omega) (by omega)]; omega
    rw [e0, e1] at this
    exact ⟨p + 9, hmo, by omega, by omega, this⟩
  · simp only [k0, k1, show ¬ (3 : Int) = 0 by decide, show ¬ (3 : Int) = 1 by decide, show ¬ (3 : Int) = 2 by decide, if_true, if_false] at h3 ⊢
    obtain ⟨q, g1, g2, g3, g4⟩ := spec_text_ev x hx rest (byts a.f2) (p + 1) [] h3 (by simp)
    rw [List.nil_append, byts_str] at g4
    refine ⟨q, g1, by omega, g3, ?_⟩
    have g5 : Ev (fun k => spec_l18Text.f k x ((p + 1 : Nat) : Int)) (a.f2, (q : Int)) := g4
    refine Ev.bind g5 ?_
    exact Ev.now _
end Go.Proofs.Ytgnmdhkkbkoghaa.P
end
section
set_option linter.unusedSimpArgs false
set_option linter.unusedVariables false
namespace Go.Proofs.Ytgnmdhkkbkoghaa.P
open Go.RowKit Go.Proofs.YtgnmdhkkbkoghaaW.PrintWords Go.Proofs.YtgnmdhkkbkoghaaW.PrintLast Go.Proofs.YtgnmdhkkbkoghaaW.PrintMore Go.Proofs.YtgnmdhkkbkoghaaZ
theorem impl_text_total (x : List Int) (hx : x.length ≤ 1048576) : ∀ (n p : Nat) (out : List Int), x.length + 1 - p ≤ n → p ≤ x.length + 1 → out.length ≤ p →
    ∃ (s : ByteArray) (r : List Int), r.length ≤ x.length ∧ Ev (fun k => impl_takeText.l0 k x out (p : Int)) (s, r) := by
  intro n
  induction n with
  | zero =>
    intro p out hn hp hl
    refine ⟨strOfNums out, [], Nat.zero_le _, Ev.shift ?_⟩
    have c : ¬ ((p : Int) < (x.length : Int)) := by omega
    simp only [impl_takeText.l0, c, if_false]
    exact Ev.now _
  | succ n ih =>
    intro p out hn hp hl
    by_cases c : (p : Int) < (x.length : Int)
    · have c1 : (0 : Int) ≤ (p : Int) := by omega
      have w1 : wrap64 ((p : Int) + 1) = ((p + 1 : Nat) : Int) := succ64 (show p < x.length by omega) (by omega)
      have w2 : wrap64 ((p : Int) + 2) = ((p + 2 : Nat) : Int) := by rw [w64 (by omega) (by omega)]; omega
      have w3 : wrap64 (((p + 1 : Nat) : Int) + 1) = ((p + 2 : Nat) : Int) := by rw [w64 (by omega) (by omega)]; omega
      have c4 : out.length < 140737488355328 := by omega
      have c3 : (0 : Int) ≤ ((p + 1 : Nat) : Int) := by omega
      have c5 : (0 : Int) ≤ ((p + 2 : Nat) : Int) := by omega
      by_cases hz : rd x (p : Int) = 0
      · by_cases c2 : ((p + 1 : Nat) : Int) < (x.length : Int)
        · by_cases h1 : rd x ((p + 1 : Nat) : Int) = 1
          · have c6 : ((p + 2 : Nat) : Int) ≤ (x.length : Int) := by omega
            refine ⟨strOfNums out, x.drop (p + 2), by rw [List.length_drop]; omega, Ev.shift ?_⟩
            simp only [impl_takeText.l0, w1, w2, c, c1, c2, c3, c5, c6, hz, h1, if_true, Int.toNat_natCast]
            exact Ev.now _
          · obtain ⟨s, r, h2, h3⟩ := ih (p + 2) (out ++ [0]) (by omega) (by omega) (by simp only [List.length_append, List.length_cons, List.length_nil]; omega)
            refine ⟨s, r, h2, Ev.shift ?_⟩
            simp only [impl_takeText.l0, w1, w3, c, c1, c2, c3, c4, hz, h1, if_true, if_false]
            exact h3
        · obtain ⟨s, r, h2, h3⟩ := ih (p + 2) (out ++ [0]) (by omega) (by omega) (by simp only [List.length_append, List.length_cons, List.length_nil]; omega)
          refine ⟨s, r, h2, Ev.shift ?_⟩
          simp only [impl_takeText.l0, w1, w3, c, c1, c2, c4, hz, if_true, if_false]
          exact h3
      · obtain ⟨s, r, h2, h3⟩ := ih (p + 1) (out ++ [rd x (p : Int)]) (by omega) (by omega) (by simp only [List.length_append, List.length_cons, List.length_nil]; omega)
        refine ⟨s, r, h2, Ev.shift ?_⟩
        simp only [impl_takeText.l0, w1, c, c1, c4, hz, if_true, if_false]
        exact h3
    · refine ⟨strOfNums out, [], Nat.zero_le _, Ev.shift ?_⟩
      simp only [impl_takeText.l0, c, if_false]
      exact Ev.now _
theorem impl_be_total (x y : List Int) (hx : 8 ≤ x.length) (a b : Int) (s : ByteArray) : ∀ i : Nat, i ≤ y.length → y.length ≤ 8 → ∀ acc : Int, ∃ v : Int, Ev (fun k => impl_takeValue.l0 k x acc y (y.length : Int) (i : Int) a b s) (a, v, s, x.drop 8) := by
  intro i hi h8
  revert i
  refine back ?_ fun i hi ih => ?_
  · intro acc
    refine ⟨wrap64 (wrap64 acc - 4611686018427387904), Ev.shift ?_⟩
    have c2 : (8 : Int) ≤ (x.length : Int) := by omega
    simp only [impl_takeValue.l0, Int.lt_irrefl, c2, if_true, if_false]
    exact Ev.now _
  · intro acc
    obtain ⟨v, h⟩ := ih (Go.bits .or .u64 (IntKind.u64.wrap (acc * 256)) (IntKind.u64.wrap (rd y (i : Int))))
    have c0 : (0 : Int) ≤ (i : Int) := by omega
    have c1 : (i : Int) < (y.length : Int) := by omega
    refine ⟨v, Ev.shift ?_⟩
    simp only [impl_takeValue.l0, c0, c1, if_true, succ64 hi (by omega)]
    exact h
theorem impl_take_total (x : List Int) (hx : x.length ≤ 1048576) (hn : x ≠ []) : ∃ (v : iV) (r : List Int), r.length ≤ x.length ∧ Ev (fun k => impl_takeValue.f k x) (v.f0, v.f1, v.f2, r) := by
  have hl : 0 < x.length := List.length_pos_iff.mpr hn
  have c0 : (0 : Int) < (x.length : Int) := by omega
  have c1 : (1 : Int) ≤ (x.length : Int) := by omega
  simp only [impl_takeValue.f, c0, c1, if_true, Option.bind_some]
  generalize hK : wrap64 (wrap64 (rd x 0) - 1) = K
  have hd : (x.drop 1).length ≤ x.length := by rw [List.length_drop]; omega
  generalize x.drop 1 = y at hd
  have key : ∃ (v : iV) (r : List Int), r.length ≤ x.length ∧ Ev (fun k => impl_takeValue.j0 k y false K 0 ⟨#[]⟩) (v.f0, v.f1, v.f2, r) := by
    by_cases h2 : K = 2
    · by_cases h8 : (y.length : Int) ≥ 8
      · have hy8 : 8 ≤ y.length := by omega
        have c8 : (8 : Int) ≤ (y.length : Int) := by omega
        obtain ⟨v, h⟩ := impl_be_total y (y.take 8) hy8 2 0 ⟨#[]⟩ 0 (Nat.zero_le _) (by rw [List.length_take]; omega) 0
        refine ⟨⟨2, v, ⟨#[]⟩⟩, y.drop 8, by rw [List.length_drop]; omega, Ev.shift ?_⟩
        simp only [impl_takeValue.j0, Bool.false_eq_true, if_false, if_true, h2]
        refine Ev.shift ?_
        simp only [impl_takeValue.j1, h8, c8, decide_true, if_true, Option.bind_some]
        exact h
      · refine ⟨⟨2, 0, ⟨#[]⟩⟩, y, hd, Ev.shift ?_⟩
        simp only [impl_takeValue.j0, Bool.false_eq_true, if_false, if_true, h2]
        refine Ev.shift ?_
        simp only [impl_takeValue.j1, h8, decide_false, Bool.false_eq_true, if_false, show ¬ (2 : Int) = 3 by decide]
        exact Ev.now _
    · by_cases h3 : K = 3
      · obtain ⟨s, r, g1, g2⟩ := impl_text_total y (by omega) (y.length + 1) 0 [] (by omega) (by omega) (by simp)
        refine ⟨⟨3, 0, s⟩, r, by omega, Ev.shift ?_⟩
        simp only [impl_takeValue.j0, Bool.false_eq_true, if_false, h2]
        refine Ev.shift ?_
        simp only [impl_takeValue.j1, Bool.false_eq_true, if_false, h3, if_true]
        have g3 : Ev (fun k => impl_takeText.f k y) (s, r) := g2
        refine Ev.bind g3 ?_
        exact Ev.now _
      · refine ⟨⟨K, 0, ⟨#[]⟩⟩, y, hd, Ev.shift ?_⟩
        simp only [impl_takeValue.j0, Bool.false_eq_true, if_false, h2]
        refine Ev.shift ?_
        simp only [impl_takeValue.j1, Bool.false_eq_true, if_false, h3]
        exact Ev.now _
  by_cases h1 : K = 1
  · simp only [h1, if_true] at key ⊢
    by_cases h0 : (y.length : Int) > 0
    · have c2 : (0 : Int) < (y.length : Int) := h0
      have c3 : (1 : Int) ≤ (y.length : Int) := by omega
      refine ⟨⟨1, wrap64 (rd y 0), ⟨#[]⟩⟩, y.drop 1, by rw [List.length_drop]; omega, Ev.shift ?_⟩
      simp only [impl_takeValue.j0, h0, c2, c3, decide_true, if_true]
      exact Ev.now _
    · simp only [h0, decide_false]
      exact key
  · simp only [h1, if_false]
    exact key
theorem spec_text_total (x : List Int) (hx : x.length ≤ 1048576) : ∀ (n p : Nat) (out : List Int), x.length + 1 - p ≤ n → p ≤ x.length + 1 → out.length ≤ p →
    ∃ (s : ByteArray) (q : Nat), q ≤ x.length + 1 ∧ Ev (fun k => spec_l18Text.l0 k x (p : Int) out) (s, (q : Int)) := by
  intro n
  induction n with
  | zero =>
    intro p out hn hp hl
    refine ⟨⟨#[]⟩, x.length + 1, Nat.le_refl _, Ev.shift ?_⟩
    have w1 : wrap64 ((p : Int) + 1) = ((p + 1 : Nat) : Int) := by rw [w64 (by omega) (by omega)]; omega
    have w2 : wrap64 ((x.length : Int) + 1) = ((x.length + 1 : Nat) : Int) := by rw [w64 (by omega) (by omega)]; omega
    have c : ¬ (((p + 1 : Nat) : Int) < (x.length : Int)) := by omega
    simp only [spec_l18Text.l0, w1, w2, c, if_false]
    exact Ev.now _
  | succ n ih =>
    intro p out hn hp hl
    have w1 : wrap64 ((p : Int) + 1) = ((p + 1 : Nat) : Int) := by rw [w64 (by omega) (by omega)]; omega
    have w2 : wrap64 ((x.length : Int) + 1) = ((x.length + 1 : Nat) : Int) := by rw [w64 (by omega) (by omega)]; omega
    have w3 : wrap64 ((p : Int) + 2) = ((p + 2 : Nat) : Int) := by rw [w64 (by omega) (by omega)]; omega
    have w4 : wrap64 (((p + 1 : Nat) : Int) + 1) = ((p + 2 : Nat) : Int) := by rw [w64 (by omega) (by omega)]; omega
    by_cases c : ((p + 1 : Nat) : Int) < (x.length : Int)
    · have c1 : (0 : Int) ≤ (p : Int) := by omega
      have c2 : (p : Int) < (x.length : Int) := by omega
      have c3 : (0 : Int) ≤ ((p + 1 : Nat) : Int) := by omega
      have c4 : out.length < 140737488355328 := by omega
      by_cases hz : rd x (p : Int) = 0
      · by_cases h1 : rd x ((p + 1 : Nat) : Int) = 1
        · refine ⟨strOfNums out, p + 2, by omega, Ev.shift ?_⟩
          simp only [spec_l18Text.l0, w1, c, c1, c2, c3, hz, h1, if_true]
          refine Ev.shift ?_
          simp only [spec_l18Text.j1, beq_self_eq_true, if_true, w3]
          exact Ev.now _
        · obtain ⟨s, q, h2, h3⟩ := ih (p + 2) (out ++ [0]) (by omega) (by omega) (by simp only [List.length_append, List.length_cons, List.length_nil]; omega)
          refine ⟨s, q, h2, Ev.shift ?_⟩
          simp only [spec_l18Text.l0, w1, c, c1, c2, c3, hz, if_true]
          refine Ev.shift ?_
          simp only [spec_l18Text.j1, beq_iff_eq, h1, if_false, c1, c2, c4, hz, if_true, Option.bind_some, w1, w4]
          exact h3
      · obtain ⟨s, q, h2, h3⟩ := ih (p + 1) (out ++ [rd x (p : Int)]) (by omega) (by omega) (by simp only [List.length_append, List.length_cons, List.length_nil]; omega)
        refine ⟨s, q, h2, Ev.shift ?_⟩
        simp only [spec_l18Text.l0, w1, c, c1, c2, hz, if_true, if_false]
        refine Ev.shift ?_
        simp only [spec_l18Text.j1, Bool.false_eq_true, if_false, c1, c2, c4, hz, if_true, Option.bind_some, w1]
        exact h3
    · refine ⟨⟨#[]⟩, x.length + 1, Nat.le_refl _, Ev.shift ?_⟩
      simp only [spec_l18Text.l0, w1, w2, c, if_false]
      exact Ev.now _
theorem spec_be_total (x : List Int) (hx : x.length ≤ 1048576) (p0 : Nat) (hp0 : p0 ≤ 1048576) (a : Int) (s : ByteArray) : ∀ (n p : Nat), p + n = p0 + 9 → ∀ acc : Int,
    ∃ v : Int, Ev (fun k => spec_l18Read.l0 k x (p0 : Int) (p : Int) a acc s) (a, v, s, ((p0 + 9 : Nat) : Int)) := by
  have w : wrap64 ((p0 : Int) + 9) = ((p0 + 9 : Nat) : Int) := by rw [w64 (by omega) (by omega)]; omega
  intro n
  induction n with
  | zero =>
    intro p hp acc
    have c : ¬ ((p : Int) < ((p0 + 9 : Nat) : Int)) := by omega
    refine ⟨wrap64 (acc - 4611686018427387904), Ev.shift ?_⟩
    simp only [spec_l18Read.l0, w, c, if_false]
    exact Ev.now _
  | succ n ih =>
    intro p hp acc
    have c : ((p : Int) < ((p0 + 9 : Nat) : Int)) := by omega
    by_cases c2 : (p : Int) < (x.length : Int)
    · have c1 : (0 : Int) ≤ (p : Int) := by omega
      obtain ⟨v, h⟩ := ih (p + 1) (by omega) (Go.bits .or .i64 (wrap64 (acc * 256)) (wrap64 (rd x (p : Int))))
      refine ⟨v, Ev.shift ?_⟩
      simp only [spec_l18Read.l0, w, c, c1, c2, if_true, succ64 (show p < x.length by omega) (by omega)]
      exact h
    · refine ⟨wrap64 (acc - 4611686018427387904), Ev.shift ?_⟩
      simp only [spec_l18Read.l0, w, c, c2, if_true, if_false]
      exact Ev.now _
theorem spec_read_total (x : List Int) (hx : x.length ≤ 1048576) (p : Nat) (hp : p < x.length) : ∃ (v : iV) (q : Nat), q ≤ 2000000 ∧ Ev (fun k => spec_l18Read.f k x (p : Int)) (v.f0, v.f1, v.f2, (q : Int)) := by
  have c0 : (0 : Int) ≤ (p : Int) := by omega
  have c1 : (p : Int) < (x.length : Int) := by omega
  have w1 : wrap64 ((p : Int) + 1) = ((p + 1 : Nat) : Int) := succ64 hp (by omega)
  have w2 : wrap64 ((p : Int) + 2) = ((p + 2 : Nat) : Int) := by rw [w64 (by omega) (by omega)]; omega
  have w3 : wrap64 ((x.length : Int) + 1) = ((x.length + 1 : Nat) : Int) := by rw [w64 (by omega) (by omega)]; omega
  simp only [spec_l18Read.f, c0, c1, if_true, w1, w2, w3]
  generalize wrap64 (wrap64 (rd x (p : Int)) - 1) = K
  by_cases h0 : K = 0
  · simp only [h0, if_true]
    exact ⟨⟨0, 0, ⟨#[]⟩⟩, p + 1, by omega, Ev.now _⟩
  · by_cases h1 : K = 1
    · simp only [h1, show ¬ (1 : Int) = 0 by decide, if_true, if_false]
      by_cases c2 : ((p + 1 : Nat) : Int) < (x.length : Int)
      · have c3 : (0 : Int) ≤ ((p + 1 : Nat) : Int) := by omega
        simp only [c2, c3, if_true]
        exact ⟨⟨1, _, ⟨#[]⟩⟩, p + 2, by omega, Ev.now _⟩
      · simp only [c2, if_false]
        exact ⟨⟨1, 0, ⟨#[]⟩⟩, p + 2, by omega, Ev.now _⟩
    · by_cases h2 : K = 2
      · simp only [h2, show ¬ (2 : Int) = 0 by decide, show ¬ (2 : Int) = 1 by decide, if_true, if_false]
        obtain ⟨v, h⟩ := spec_be_total x hx p (by omega) 2 ⟨#[]⟩ 8 (p + 1) (by omega) 0
        exact ⟨⟨2, v, ⟨#[]⟩⟩, p + 9, by omega, h⟩
      · by_cases h3 : K = 3
        · simp only [h3, show ¬ (3 : Int) = 0 by decide, show ¬ (3 : Int) = 1 by decide, show ¬ (3 : Int) = 2 by decide, if_true, if_false]
          obtain ⟨s, q, g1, g2⟩ := spec_text_total x hx (x.length + 1) (p + 1) [] (by omega) (by omega) (by simp)
          refine ⟨⟨3, 0, s⟩, q, by omega, ?_⟩
          have g3 : Ev (fun k => spec_l18Text.f k x ((p + 1 : Nat) : Int)) (s, (q : Int)) := g2
          refine Ev.bind g3 ?_
          exact Ev.now _
        · simp only [h0, h1, h2, h3, if_false]
          exact ⟨⟨K, 0, ⟨#[]⟩⟩, x.length + 1, by omega, Ev.now _⟩
def finT (x : List Int) (y : List iV) : List iV × Bool := if okT y = true ∧ (strOfNums (tbytes y)).toList = (strOfNums x).toList then (y, true) else ([], false)
theorem impl_fin_ev (x : List Int) (y : List iV) (hy : y.length ≤ 9223372036854775807) : Ev (fun k => impl_TupleOf.j1 k x y) (finT x y) := by
  refine Ev.shift ?_
  simp only [impl_TupleOf.j1, finT, bytes_Equal.f]
  refine Ev.bind (impl_TupleOk_ev y hy) ?_
  by_cases h : okT y = true
  · simp only [h, if_true, true_and, Option.bind_some]
    refine Ev.bind (impl_TupleBytes_ev y hy) ?_
    by_cases h2 : (strOfNums (tbytes y)).toList = (strOfNums x).toList
    · simp only [h2, beq_self_eq_true, if_true]
      exact Ev.now _
    · simp only [h2, beq_iff_eq, if_false]
      exact Ev.now _
  · simp only [h, if_false, false_and]
    exact Ev.now _
theorem spec_fin_ev (x : List Int) (y : List iV) (hy : y.length ≤ 9223372036854775807) : Ev (fun k => spec_TupleOf.j1 k x y (x.length : Int)) (finT x y) := by
  refine Ev.shift ?_
  simp only [spec_TupleOf.j1, finT, if_true]
  refine Ev.bind (spec_TupleOk_ev y hy) ?_
  by_cases h : okT y = true
  · simp only [h, if_true, true_and]
    refine Ev.bind (spec_TupleBytes_ev y hy) ?_
    by_cases h2 : (strOfNums (tbytes y)).toList = (strOfNums x).toList
    · simp only [h2, if_true]
      exact Ev.now _
    · simp only [h2, if_false]
      exact Ev.now _
  · simp only [h, if_false, false_and]
    exact Ev.now _
theorem impl_total (x : List Int) : ∀ (n : Nat) (y : List iV) (z : List Int), y.length + n = 5 → z.length ≤ 1048576 → ∃ y' : List iV, Ev (fun k => impl_TupleOf.l0 k x y z) (finT x y') := by
  intro n
  induction n with
  | zero =>
    intro y z hy hz
    refine ⟨y, Ev.shift ?_⟩
    have c2 : ¬ ((y.length : Int) ≤ 4) := by omega
    by_cases c : (z.length : Int) > 0
    · simp only [impl_TupleOf.l0, c, c2, if_true, if_false]
      exact impl_fin_ev x y (by omega)
    · simp only [impl_TupleOf.l0, c, if_false]
      exact impl_fin_ev x y (by omega)
  | succ n ih =>
    intro y z hy hz
    by_cases c : (z.length : Int) > 0
    · have c2 : ((y.length : Int) ≤ 4) := by omega
      have c3 : y.length < 4398046511104 := by omega
      obtain ⟨v, r, h1, h2⟩ := impl_take_total z hz (by intro e; rw [e] at c; simp at c)
      obtain ⟨y', h3⟩ := ih (y ++ [v]) r (by simp only [List.length_append, List.length_cons, List.length_nil]; omega) (by omega)
      refine ⟨y', Ev.shift ?_⟩
      simp only [impl_TupleOf.l0, c, c2, if_true]
      refine Ev.bind h2 ?_
      simp only [c3, if_true]
      exact h3
    · refine ⟨y, Ev.shift ?_⟩
      simp only [impl_TupleOf.l0, c, if_false]
      exact impl_fin_ev x y (by omega)
theorem spec_end_total (x : List Int) (y : List iV) (hy : y.length ≤ 5) (p : Nat) : ∃ r : List iV × Bool, (r = ([], false) ∨ ∃ y', r = finT x y') ∧ Ev (fun k => spec_TupleOf.j1 k x y (p : Int)) r := by
  by_cases h : p = x.length
  · subst h
    exact ⟨_, Or.inr ⟨y, rfl⟩, spec_fin_ev x y (by omega)⟩
  · refine ⟨_, Or.inl rfl, Ev.shift ?_⟩
    have c : ¬ ((p : Int) = (x.length : Int)) := by omega
    simp only [spec_TupleOf.j1, c, if_false]
    exact Ev.now _
theorem spec_total (x : List Int) (hx : x.length ≤ 1048576) : ∀ (n : Nat) (y : List iV) (p : Nat), y.length + n = 5 → ∃ r : List iV × Bool, (r = ([], false) ∨ ∃ y', r = finT x y') ∧ Ev (fun k => spec_TupleOf.l0 k x y (p : Int)) r := by
  intro n
  induction n with
  | zero =>
    intro y p hy
    obtain ⟨r, h1, h2⟩ := spec_end_total x y (by omega) p
    refine ⟨r, h1, Ev.shift ?_⟩
    have c2 : ¬ ((y.length : Int) ≤ 4) := by omega
    by_cases c : (p : Int) < (x.length : Int)
    · simp only [spec_TupleOf.l0, c, c2, if_true, if_false]
      exact h2
    · simp only [spec_TupleOf.l0, c, if_false]
      exact h2
  | succ n ih =>
    intro y p hy
    by_cases c : (p : Int) < (x.length : Int)
    · have c2 : ((y.length : Int) ≤ 4) := by omega
      have c3 : y.length < 4398046511104 := by omega
      obtain ⟨v, q, h1, h2⟩ := spec_read_total x hx p (by omega)
      obtain ⟨r, h3, h4⟩ := ih (y ++ [v]) q (by simp only [List.length_append, List.length_cons, List.length_nil]; omega)
      refine ⟨r, h3, Ev.shift ?_⟩
      simp only [spec_TupleOf.l0, c, c2, if_true]
      refine Ev.bind h2 ?_
      simp only [c3, if_true]
      exact h4
    · obtain ⟨r, h1, h2⟩ := spec_end_total x y (by omega) p
      refine ⟨r, h1, Ev.shift ?_⟩
      simp only [spec_TupleOf.l0, c, if_false]
      exact h2
theorem encV_ne (a : iV) : encV a ≠ [] := by unfold encV; exact List.cons_ne_nil _ _
theorem finT_self {y : List iV} (h : okT y = true) : finT (encs y) y = (y, true) := by
  unfold finT tbytes
  rw [if_pos h, if_pos ⟨h, rfl⟩]
theorem impl_parse_ev (y : List iV) (h : okT y = true) : Ev (fun k => impl_TupleOf.f k (encs y)) (y, true) := by
  obtain ⟨hm, h4⟩ := okT_mem h
  have hlen := encs_length hm
  have key : ∀ (B A : List iV), y = A ++ B → Ev (fun k => impl_TupleOf.l0 k (encs y) A (encs B)) (y, true) := by
    intro B
    induction B with
    | nil =>
      intro A hA
      rw [List.append_nil] at hA
      subst hA
      refine Ev.shift ?_
      have c : ¬ (((encs ([] : List iV)).length : Int) > 0) := by simp [encs]
      simp only [impl_TupleOf.l0, c, if_false]
      have := impl_fin_ev (encs y) y (by omega)
      rw [finT_self h] at this
      exact this
    | cons a B ih =>
      intro A hA
      have ha := hm a (by rw [hA]; simp)
      have e : encs (a :: B) = encV a ++ encs B := by simp only [encs, List.flatMap_cons]
      have hl2 := encs_length (l := a :: B) (fun b hb => hm b (by rw [hA]; exact List.mem_append_right _ hb))
      have hla : y.length = A.length + (a :: B).length := by rw [hA, List.length_append]
      have hle : (a :: B).length ≤ 4 := by omega
      have c : ((encs (a :: B)).length : Int) > 0 := by
        have := List.length_pos_iff.mpr (encV_ne a)
        rw [e, List.length_append]; omega
      simp only [List.length_cons] at hla
      have c2 : (A.length : Int) ≤ 4 := by omega
      have c3 : A.length < 4398046511104 := by omega
      refine Ev.shift ?_
      simp only [impl_TupleOf.l0, c, c2, if_true]
      refine Ev.bind (impl_take_ev ha (encs (a :: B)) (encs B) (by omega) e) ?_
      simp only [c3, if_true]
      exact ih (A ++ [a]) (by simp [hA])
  simp only [impl_TupleOf.f]
  exact key y [] rfl
theorem spec_parse_ev (y : List iV) (h : okT y = true) : Ev (fun k => spec_TupleOf.f k (encs y)) (y, true) := by
  obtain ⟨hm, h4⟩ := okT_mem h
  have hlen := encs_length hm
  have hx : (encs y).length ≤ 1048576 := by omega
  have key : ∀ (B A : List iV) (p : Nat), y = A ++ B → (encs y).drop p = encs B → p ≤ (encs y).length → Ev (fun k => spec_TupleOf.l0 k (encs y) A (p : Int)) (y, true) := by
    intro B
    induction B with
    | nil =>
      intro A p hA hd hp
      rw [List.append_nil] at hA
      have hpe : p = (encs y).length := by
        have e : ((encs y).drop p).length = 0 := by rw [hd]; rfl
        rw [List.length_drop] at e
        omega
      rw [← hA, hpe]
      refine Ev.shift ?_
      simp only [spec_TupleOf.l0, Int.lt_irrefl, if_false]
      have := spec_fin_ev (encs y) y (by omega)
      rw [finT_self h] at this
      exact this
    | cons a B ih =>
      intro A p hA hd hp
      have ha := hm a (by rw [hA]; simp)
      have e : encs (a :: B) = encV a ++ encs B := by simp only [encs, List.flatMap_cons]
      rw [e] at hd
      have hle := drop_le hd (encV_ne a)
      have hpos := List.length_pos_iff.mpr (encV_ne a)
      obtain ⟨q, g1, g2, g3, g4⟩ := spec_read_ev ha (encs y) (encs B) p hx hd
      have hla : y.length = A.length + (a :: B).length := by rw [hA, List.length_append]
      simp only [List.length_cons] at hla
      have c : (p : Int) < ((encs y).length : Int) := by omega
      have c2 : (A.length : Int) ≤ 4 := by omega
      have c3 : A.length < 4398046511104 := by omega
      refine Ev.shift ?_
      simp only [spec_TupleOf.l0, c, c2, if_true]
      refine Ev.bind g4 ?_
      simp only [c3, if_true]
      exact ih (A ++ [a]) q (by simp [hA]) g1 g3
  simp only [spec_TupleOf.f]
  exact key y [] 0 rfl rfl (Nat.zero_le _)
theorem strs_inj : ∀ {a b : List Int}, isB a → isB b → (strOfNums a).toList = (strOfNums b).toList → a = b := by
  intro a b ha hb h
  rw [ByteArray.toList_eq, ByteArray.toList_eq, strOfNums_data, strOfNums_data] at h
  induction a generalizing b with
  | nil =>
    cases b with
    | nil => rfl
    | cons y b => simp at h
  | cons x a ih =>
    cases b with
    | nil => simp at h
    | cons y b =>
      simp only [List.map_cons, List.cons.injEq] at h
      have hx := ha x (by simp)
      have hy := hb y (by simp)
      have e : x.toNat = y.toNat := by
        have := congrArg UInt8.toNat h.1
        rw [UInt8.toNat_ofNat', UInt8.toNat_ofNat'] at this
        omega
      have : x = y := by omega
      rw [this, ih (fun z hz => ha z (by simp [hz])) (fun z hz => hb z (by simp [hz])) h.2]
theorem be_isB (v : Int) : ∀ j, isB (be v j)
  | 0 => fun b hb => by cases hb
  | j + 1 => fun b hb => by
    simp only [be, List.mem_cons] at hb
    rcases hb with rfl | hb
    · omega
    · exact be_isB v j b hb
theorem esc_isB : ∀ l, isB l → isB (esc l)
  | [], _ => fun b hb => by simp only [esc, List.mem_cons, List.not_mem_nil, or_false] at hb; omega
  | x :: r, h => fun b hb => by
    have hx := h x (by simp)
    have hr := esc_isB r (fun z hz => h z (by simp [hz]))
    simp only [esc, List.mem_cons] at hb
    rcases hb with rfl | hb
    · exact hx
    · split at hb
      · simp only [List.mem_cons] at hb
        rcases hb with rfl | hb
        · omega
        · exact hr b hb
      · exact hr b hb
theorem byts_isB (s : ByteArray) : isB (byts s) := fun b hb => by
  obtain ⟨u, _, rfl⟩ := List.mem_map.mp hb
  have := u.toNat_lt
  omega
theorem encV_isB (a : iV) : isB (encV a) := fun b hb => by
  unfold encV at hb
  simp only [List.mem_cons] at hb
  rcases hb with rfl | hb
  · omega
  · split at hb
    · simp only [List.mem_cons, List.not_mem_nil, or_false] at hb; omega
    · split at hb
      · exact be_isB _ _ b hb
      · split at hb
        · exact esc_isB _ (byts_isB _) b hb
        · cases hb
theorem encs_isB (l : List iV) : isB (encs l) := fun b hb => by
  obtain ⟨a, _, h⟩ := List.mem_flatMap.mp hb
  exact encV_isB a b h
open Classical in
noncomputable def tupOf (x : List Int) : List iV × Bool := if h : ∃ y, okT y = true ∧ encs y = x then (Classical.choose h, true) else ([], false)
theorem fin_none {x : List Int} (hB : isB x) (h : ¬ ∃ y, okT y = true ∧ encs y = x) (y : List iV) : finT x y = ([], false) := by
  unfold finT
  refine if_neg fun h2 => h ⟨y, h2.1, ?_⟩
  have e := h2.2
  unfold tbytes at e
  rw [if_pos h2.1] at e
  exact strs_inj (encs_isB y) hB e
theorem impl_TupleOf_ev (x : List Int) (hx : x.length ≤ 1048576) (hB : isB x) : Ev (fun k => impl_TupleOf.f k x) (tupOf x) := by
  by_cases h : ∃ y, okT y = true ∧ encs y = x
  · have e : tupOf x = (Classical.choose h, true) := dif_pos h
    have hc := Classical.choose_spec h
    have := impl_parse_ev _ hc.1
    rw [hc.2] at this
    rw [e]
    exact this
  · have e : tupOf x = ([], false) := dif_neg h
    obtain ⟨y, hy⟩ := impl_total x 5 [] x rfl hx
    rw [fin_none hB h] at hy
    rw [e]
    exact hy
theorem spec_TupleOf_ev (x : List Int) (hx : x.length ≤ 1048576) (hB : isB x) : Ev (fun k => spec_TupleOf.f k x) (tupOf x) := by
  by_cases h : ∃ y, okT y = true ∧ encs y = x
  · have e : tupOf x = (Classical.choose h, true) := dif_pos h
    have hc := Classical.choose_spec h
    have := spec_parse_ev _ hc.1
    rw [hc.2] at this
    rw [e]
    exact this
  · have e : tupOf x = ([], false) := dif_neg h
    obtain ⟨r, h1, hy⟩ := spec_total x hx 5 [] 0 rfl
    have hr : r = ([], false) := by
      rcases h1 with h1 | ⟨y, h1⟩
      · exact h1
      · rw [h1]; exact fin_none hB h y
    rw [hr] at hy
    rw [e]
    exact hy
theorem tupOf_le (x : List Int) : (tupOf x).1.length ≤ 4 := by
  by_cases h : ∃ y, okT y = true ∧ encs y = x
  · have e : tupOf x = (Classical.choose h, true) := dif_pos h
    rw [e]
    exact (okT_mem (Classical.choose_spec h).1).2
  · have e : tupOf x = ([], false) := dif_neg h
    rw [e]
    exact Nat.zero_le _
end Go.Proofs.Ytgnmdhkkbkoghaa.P
end
namespace Go.Proofs.Ytgnmdhkkbkoghaa.P
open Go.RowKit Go.Proofs.YtgnmdhkkbkoghaaW.PrintWords Go.Proofs.YtgnmdhkkbkoghaaW.PrintLast Go.Proofs.YtgnmdhkkbkoghaaW.PrintMore
attribute [local go_sem] max2_int min2_int max_two min_two max_three min_three max_four min_four   -- for this text's walks alone
set_option linter.unusedVariables false
set_option linter.unusedSimpArgs false
end Go.Proofs.Ytgnmdhkkbkoghaa.P
section
set_option linter.unusedSimpArgs false
set_option linter.unusedVariables false
namespace Go.Proofs.Ytgnmdhkkbkoghaa.P
open Go.RowKit Go.Proofs.YtgnmdhkkbkoghaaW.PrintWords Go.Proofs.YtgnmdhkkbkoghaaW.PrintLast Go.Proofs.YtgnmdhkkbkoghaaZ
theorem toByteS_ev (l : List Int) (hl : l.length ≤ 1048576) : Ev (fun k => laws_toByteS.f k l) l := by
  have c1 : (0 : Int) ≤ (l.length : Int) := by omega
  have c2 : l.length ≤ 281474976710656 := by omega
  simp only [laws_toByteS.f, c1, c2, if_true, Int.toNat_natCast]
  have h := fill_ev l id (0 : Int) (g := fun k s i => laws_toByteS.l0 k l s i) ?_ ?_
  · rw [List.map_id] at h
    exact h
  · intro s hs
    refine Ev.shift ?_
    simp only [laws_toByteS.l0, Int.lt_irrefl, if_false]
    exact Ev.now _
  · intro s i x r hx hs hi h
    refine Ev.shift ?_
    have d1 : (i : Int) < (l.length : Int) := by omega
    have d2 : (0 : Int) ≤ (i : Int) := by omega
    have d3 : (i : Int) < (s.length : Int) := by omega
    simp only [laws_toByteS.l0, d1, d2, d3, if_true, rd_get hx, Int.toNat_natCast, succ64 hi (by omega)]
    exact h
theorem eqByteS_ev (l : List Int) (hl : l.length ≤ 9223372036854775807) : Ev (fun k => laws_eqByteS.f k l l) true := by
  simp only [laws_eqByteS.f, if_true]
  refine look_ev l true (g := fun k i => laws_eqByteS.l0 k l l i) ?_ ?_
  · refine Ev.shift ?_
    simp only [laws_eqByteS.l0, Int.lt_irrefl, if_false]
    exact Ev.now _
  · intro i x hx hi h
    refine Ev.shift ?_
    have d1 : (i : Int) < (l.length : Int) := by omega
    have d2 : (0 : Int) ≤ (i : Int) := by omega
    simp only [laws_eqByteS.l0, d1, d2, if_true, succ64 hi hl]
    exact h
def mkByte (_ : Int) (m : Int) : Int := m % 256
theorem markByteS_ev (l : List Int) (m : Int) (h0 : 0 ≤ m) (hm : m + l.length ≤ 9223372036854775807) : Ev (fun k => laws_markByteS.f k l m) (m + l.length, mkl (fun _ => 1) mkByte l m) := by
  have h := mark_ev (fun _ => 1) mkByte (fun _ => by decide) 9223372036854775807 (g := fun k l m i => laws_markByteS.l0 k l m i) l.length ?_ ?_ l m rfl h0 (by rw [ctl_const]; omega)
  · rw [ctl_const, Int.one_mul] at h
    simp only [laws_markByteS.f]
    exact h
  · intro s t hs
    refine Ev.shift ?_
    simp only [laws_markByteS.l0, Int.lt_irrefl, if_false]
    exact Ev.now _
  · intro s t i x r hs hx hi h2 h3 h
    refine Ev.shift ?_
    have d1 : (i : Int) < (s.length : Int) := by omega
    have d2 : (0 : Int) ≤ (i : Int) := by omega
    simp only [laws_markByteS.l0, d1, d2, if_true, Int.toNat_natCast, succ64 hi (by omega), w64 (n := t + 1) (by omega) (by omega)]
    exact h
end Go.Proofs.Ytgnmdhkkbkoghaa.P
end
section
set_option linter.unusedSimpArgs false
set_option linter.unusedVariables false
namespace Go.Proofs.Ytgnmdhkkbkoghaa.P
open Go.RowKit Go.Proofs.YtgnmdhkkbkoghaaW.PrintWords Go.Proofs.YtgnmdhkkbkoghaaW.PrintLast Go.Proofs.YtgnmdhkkbkoghaaZ
theorem digit_str {d : Int} (h0 : 0 ≤ d) (h1 : d ≤ 9) : strOfNums [(wrap64 (48 + d)) % 256] = ⟨#[UInt8.ofNat (48 + d.toNat)]⟩ := by
  have : d = 0 ∨ d = 1 ∨ d = 2 ∨ d = 3 ∨ d = 4 ∨ d = 5 ∨ d = 6 ∨ d = 7 ∨ d = 8 ∨ d = 9 := by omega
  rcases this with rfl | rfl | rfl | rfl | rfl | rfl | rfl | rfl | rfl | rfl <;> decide +kernel
def dgs (n : Nat) : ByteArray := if h : n < 10 then ⟨#[UInt8.ofNat (48 + n)]⟩ else dgs (n / 10) ++ ⟨#[UInt8.ofNat (48 + n % 10)]⟩
termination_by n
decreasing_by omega
theorem dgs_lt {n : Nat} (h : n < 10) : dgs n = ⟨#[UInt8.ofNat (48 + n)]⟩ := by rw [dgs, dif_pos h]
theorem dgs_ge {n : Nat} (h : ¬ n < 10) : dgs n = dgs (n / 10) ++ ⟨#[UInt8.ofNat (48 + n % 10)]⟩ := by rw [dgs, dif_neg h]
theorem append_assoc_ (a b c : ByteArray) : a ++ b ++ c = a ++ (b ++ c) := ByteArray.append_assoc
theorem empty_append_ (a : ByteArray) : (⟨#[]⟩ : ByteArray) ++ a = a := ByteArray.empty_append
theorem append_empty_ (a : ByteArray) : a ++ (⟨#[]⟩ : ByteArray) = a := ByteArray.append_empty
theorem tdiv_pos (m : Nat) : Int.tdiv (m : Int) 10 = ((m / 10 : Nat) : Int) := rfl
theorem tmod_pos (m : Nat) : Int.tmod (m : Int) 10 = ((m % 10 : Nat) : Int) := rfl
end Go.Proofs.Ytgnmdhkkbkoghaa.P
end
section
set_option linter.unusedSimpArgs false
set_option linter.unusedVariables false
namespace Go.Proofs.Ytgnmdhkkbkoghaa.P
open Go.RowKit Go.Proofs.YtgnmdhkkbkoghaaW.PrintWords Go.Proofs.YtgnmdhkkbkoghaaW.PrintLast Go.Proofs.YtgnmdhkkbkoghaaZ
def mtext (m : Int) : ByteArray := ⟨#[109]⟩ ++ dgs m.toNat
theorem mark_loop : ∀ (d m : Nat) (out : ByteArray), m < 10 ^ d → m < 9223372036854775808 → out.size + d ≤ 100 →
    Ev (fun k => laws_markText.l0 k (m : Int) out) ((⟨#[109]⟩ : ByteArray) ++ ((if m = 0 then ⟨#[]⟩ else dgs m) ++ out)) := by
  intro d
  induction d with
  | zero =>
    intro m out h _ hs
    obtain rfl : m = 0 := by simpa using h
    refine Ev.shift ?_
    have : 1 + out.size ≤ 9223372036854775807 := by omega
    simp only [laws_markText.l0, show ¬ (((0 : Nat) : Int) > 0) by decide, if_false, if_true, empty_append_, this]
    exact Ev.now _
  | succ d ih =>
    intro m out h hm hs
    by_cases h0 : m = 0
    · subst h0
      refine Ev.shift ?_
      have : 1 + out.size ≤ 9223372036854775807 := by omega
      simp only [laws_markText.l0, show ¬ (((0 : Nat) : Int) > 0) by decide, if_false, if_true, empty_append_, this]
      exact Ev.now _
    · have hd := ih (m / 10) (⟨#[UInt8.ofNat (48 + m % 10)]⟩ ++ out) (by rw [Nat.pow_succ] at h; omega) (by omega) (by rw [ByteArray.size_append]; show 1 + _ + _ ≤ _; omega)
      have hsz : (⟨#[UInt8.ofNat (48 + m % 10)]⟩ : ByteArray).size + out.size ≤ 9223372036854775807 := by show 1 + out.size ≤ _; omega
      have hdig : strOfNums [(wrap64 (48 + ((m % 10 : Nat) : Int))) % 256] = ⟨#[UInt8.ofNat (48 + m % 10)]⟩ := digit_str (by omega) (by omega)
      have hres : (if m / 10 = 0 then (⟨#[]⟩ : ByteArray) else dgs (m / 10)) ++ (⟨#[UInt8.ofNat (48 + m % 10)]⟩ ++ out) = (if m = 0 then ⟨#[]⟩ else dgs m) ++ out := by
        rw [if_neg h0]
        by_cases h9 : m < 10
        · rw [if_pos (by omega), dgs_lt h9, empty_append_, Nat.mod_eq_of_lt h9]
        · rw [if_neg (by omega), dgs_ge h9, append_assoc_]
      rw [hres] at hd
      refine Ev.shift ?_
      have c1 : (m : Int) > 0 := by omega
      have c3 : wrap64 ((m / 10 : Nat) : Int) = ((m / 10 : Nat) : Int) := w64 (by omega) (by omega)
      simp only [laws_markText.l0, c1, if_true, tmod_pos, Option.bind_some, hdig, hsz, tdiv_pos, c3]
      exact hd
theorem markText_ev (m : Int) (h0 : 0 < m) (h1 : m < 9223372036854775808) : Ev (fun k => laws_markText.f k m) (mtext m) := by
  obtain ⟨n, rfl⟩ : ∃ n : Nat, m = (n : Int) := ⟨m.toNat, by omega⟩
  have h := mark_loop 19 n ⟨#[]⟩ (by omega) (by omega) (by show 0 + 19 ≤ 100; omega)
  have c : ¬ ((n : Int) ≤ 0) := by omega
  simp only [laws_markText.f, c, if_false]
  refine h.to ?_
  rw [append_empty_, if_neg (by omega)]
  rfl
end Go.Proofs.Ytgnmdhkkbkoghaa.P
end
section
set_option linter.unusedSimpArgs false
set_option linter.unusedVariables false
namespace Go.Proofs.Ytgnmdhkkbkoghaa.P
open Go.RowKit Go.Proofs.YtgnmdhkkbkoghaaW.PrintWords Go.Proofs.YtgnmdhkkbkoghaaW.PrintLast Go.Proofs.YtgnmdhkkbkoghaaZ
def mkV (_ : iV) (m : Int) : iV := ⟨m, m + 1, mtext (m + 2)⟩
theorem rdV_set (l : List iV) (i : Nat) (a : iV) (h : i < l.length) : rd_T28 (l.set i a) (i : Int) = a := getD_get (by rw [List.getElem?_set_self h])
theorem markValueS_ev (l : List iV) (m : Int) (h0 : 0 ≤ m) (hl : l.length ≤ 1048576) (hm : m ≤ 4294967296) : Ev (fun k => laws_markValueS.f k l m) (m + 3 * l.length, mkl (fun _ => 3) mkV l m) := by
  have h := mark_ev (fun _ => 3) mkV (fun _ => by decide) 9223372036854775800 (g := fun k l m i => laws_markValueS.l0 k l m i) l.length ?_ ?_ l m rfl h0 (by rw [ctl_const]; omega)
  · rw [ctl_const] at h
    simp only [laws_markValueS.f]
    exact h
  · intro s t hs
    refine Ev.shift ?_
    simp only [laws_markValueS.l0, Int.lt_irrefl, if_false]
    exact Ev.now _
  · intro s t i x r hs hx hi h2 h3 h
    refine Ev.shift ?_
    have d1 : (i : Int) < (s.length : Int) := by omega
    have d2 : (0 : Int) ≤ (i : Int) := by omega
    have e1 : wrap64 (t + 1) = t + 1 := w64 (by omega) (by omega)
    have e2 : wrap64 (t + 1 + 1) = t + 2 := by rw [w64 (by omega) (by omega)]; omega
    have e3 : wrap64 (t + 2 + 1) = t + 3 := by rw [w64 (by omega) (by omega)]; omega
    simp only [laws_markValueS.l0, d1, d2, if_true, Option.bind_some, Int.toNat_natCast, succ64 hi (by omega), e1, e2, e3]
    refine Ev.bind (markText_ev (t + 2) (by omega) (by omega)) ?_
    simp only [rdV_set (s.set i ⟨t, (rd_T28 s (i : Int)).f1, (rd_T28 s (i : Int)).f2⟩) i _ (by rw [List.length_set]; exact hi), rdV_set _ i _ hi, List.set_set]
    exact h
theorem heldValueS_ev (l : List iV) (m : Int) (h0 : 0 ≤ m) (hl : l.length ≤ 1048576) (hm : m ≤ 4294967296) : Ev (fun k => laws_heldValueS.f k (mkl (fun _ => 3) mkV l m) m) (m + 3 * l.length) := by
  have h := held_ev (fun _ => 3) mkV (fun _ => by decide) 9223372036854775800 (g := fun k l m i => laws_heldValueS.l0 k l m i) l.length ?_ ?_ l m rfl h0 (by rw [ctl_const]; omega)
  · rw [ctl_const] at h
    simp only [laws_heldValueS.f]
    exact h
  · intro s t hs
    refine Ev.shift ?_
    simp only [laws_heldValueS.l0, Int.lt_irrefl, if_false]
    exact Ev.now _
  · intro s t i x r hs hx hi h2 h3 h
    refine Ev.shift ?_
    have d1 : (i : Int) < (s.length : Int) := by omega
    have d2 : (0 : Int) ≤ (i : Int) := by omega
    have e1 : wrap64 (t + 1) = t + 1 := w64 (by omega) (by omega)
    have e2 : wrap64 (t + 1 + 1) = t + 2 := by rw [w64 (by omega) (by omega)]; omega
    have e3 : wrap64 (t + 2 + 1) = t + 3 := by rw [w64 (by omega) (by omega)]; omega
    have d3 : rd_T28 s (i : Int) = mkV x t := getD_get hx
    have d4 : (mkV x t).f0 = t := rfl
    have d5 : (mkV x t).f1 = t + 1 := rfl
    have d6 : (mkV x t).f2 = mtext (t + 2) := rfl
    simp only [laws_heldValueS.l0, d1, d2, d3, d4, d5, d6, if_true, succ64 hi (by omega), e1, e2, e3]
    refine Ev.bind (markText_ev (t + 2) (by omega) (by omega)) ?_
    simp only [if_true]
    exact h
end Go.Proofs.Ytgnmdhkkbkoghaa.P
end
