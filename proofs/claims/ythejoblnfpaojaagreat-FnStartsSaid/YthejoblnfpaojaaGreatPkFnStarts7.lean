/- A part of the proof of the law FnStarts: texts of this seat, merged (words, printed functions of the program, plain lemmas). Conditions: none of its own. -/
import Derived.Laws.CopyOwn
import Derived.Test.YthejoblnfpaojaaGreatPkFnStarts6
set_option linter.unusedSimpArgs false
set_option linter.unusedVariables false
set_option maxHeartbeats 8000000
set_option maxRecDepth 100000
namespace Go.Proofs.YthejoblnfpaojaaGreatZ
open Go.RowKit Go.Proofs.YthejoblnfpaojaaGreatW.PrintWords Go.Proofs.YthejoblnfpaojaaGreatW.PrintLast
variable {P : Program} {ops : Array Oper} {Q : Exit → Act → World → Prop}
theorem goesTC_ {rest : List Oper} {oi : Oper} {a : Act} {w : World} (N : Option Tmp) (t : Nat) (hd : oi.dst = N) (hg : oi.guard = none) {f : FuncId} {fn : Func} {as_ : Array Operand} {ts : Array TypeId} (hf : P.funcs[f]? = some fn) (hname : (fn.name == "runtime.NumGoroutine") = false) (hb : fn.body.isSome = true) (args cs all : Array Value)
    (hop : oi.op = .call { callee := .value (.tmp t), args := as_, argTypes := ts }) (ht : a.eval (.tmp t) = .func (.func f) #[] cs) (hargs : as_.map a.eval = args) (hall : args ++ cs = all)
    (h : Calls P f all w fun e w' => ∃ v, e = .returned v ∧ wpList P ops Q rest (a.put N v) w') : wpList P ops Q (oi :: rest) a w := by
  subst hall
  refine wpList_plain hg fun K hK => ?_
  have he := enters_ hf hname hb (args ++ cs) w
  have hrun : (execOp a.eval oi).run P w = .ok (.enter f (args ++ cs)) w := by
    unfold execOp
    simp [hop, resolve, Deferred.ofValue, invoke, ht, hargs, he]
  unfold Oper.wp
  rw [hrun, Oper.upon_enter]
  refine h.mono fun e w'' hh => ?_
  obtain ⟨v, rfl, hk⟩ := hh
  subst hd
  exact hK _ _ hk
end Go.Proofs.YthejoblnfpaojaaGreatZ
namespace Go.Proofs.YthejoblnfpaojaaGreatZ
open Go.RowKit Go.Proofs.YthejoblnfpaojaaGreatW.PrintWords Go.Proofs.YthejoblnfpaojaaGreatW.PrintLast Go.Proofs.YthejoblnfpaojaaGreatW.PrintMore
theorem odA {p : Prop} [Decidable p] (h : decide p = true := by first | (with_reducible assumption) | assumption) : p := of_decide_eq_true h
theorem fA {r p q : Prop} (n : r) (h : p) (f : r → p → q := by intro n_ h_; repeat (first | with_reducible exact h_ | refine (cell_far n_ _).trans ?_)) : q := f n h
theorem fB {r s p q : Prop} (c : r) (g : s) (h : p) (f : r → s → p → q := by intro c_ g_ h_; repeat (first | with_reducible exact h_ | refine (cell_far (by first | exact Nat.ne_of_lt (Nat.lt_of_lt_of_le (by have := World.block_lt_of_cell? _ _ c_; first | rwa [add_block] at this | exact this) g_) | (rw [add_block]; exact Nat.ne_of_lt (Nat.lt_of_lt_of_le (by have := World.block_lt_of_cell? _ _ c_; first | rwa [add_block] at this | exact this) g_)) | (show (Addr.add _ _).block ≠ _; rw [add_block]; exact Nat.ne_of_lt (Nat.lt_of_lt_of_le (by have := World.block_lt_of_cell? _ _ c_; first | rwa [add_block] at this | exact this) g_)) | (dsimp only; exact Nat.ne_of_lt (Nat.lt_of_lt_of_le (by have := World.block_lt_of_cell? _ _ c_; first | rwa [add_block] at this | exact this) g_))) _).trans ?_)) : q := f c g h
theorem rF {α : Type} {d : Kd α} {e : Nat} {w w' : World} {base : Nat} {ok : Nat → Prop} {v : Value} {xs : List α} {g t : Nat} {cs : Array Value} (h : d.R e w base ok v xs) (b : w.heap[g]? = some (.cells cs t (0, 0))) (ht : ∀ q, q ∈ e :: d.E → q ≠ t := by decide)
    (f : d.R e w base (fun k => ok k ∧ k ≠ g) v xs → d.R e w' base (fun k => ok k ∧ k ≠ g) v xs := by intro h_; (with_reducible repeat (first | apply Kd.R_alloc | apply Kd.R_drewN | apply Kd.R_drew)); repeat (first | with_reducible exact h_ | refine Kd.R_far ?_ (fun _ hk => hk.2) _)) : d.R e w' base ok v xs := Kd.R_mono (f (Kd.R_types h b ht)) (fun _ h_ => h_.1)
theorem sF {α : Type} {d : Kd α} {e : Nat} {w w' : World} {base : Nat} {ok : Nat → Prop} {v : Value} {xs : List α} {g t : Nat} {cs : Array Value} (h : Kd.S d e w base ok v xs) (b : w.heap[g]? = some (.cells cs t (0, 0))) (ht : ∀ q, q ∈ e :: d.E → q ≠ t := by decide)
    (f : Kd.S d e w base (fun k => ok k ∧ k ≠ g) v xs → Kd.S d e w' base (fun k => ok k ∧ k ≠ g) v xs := by intro h_; (with_reducible repeat (first | apply Kd.S_alloc | apply Kd.S_drewN | apply Kd.S_drew)); repeat (first | with_reducible exact h_ | refine Kd.S_far ?_ (fun _ hk => hk.2) _)) : Kd.S d e w' base ok v xs := Kd.S_mono (f (Kd.S_types h b ht)) (fun _ h_ => h_.1)
theorem rR {α : Type} {d : Kd α} {e : Nat} {w w' : World} {base : Nat} {ok : Nat → Prop} {A : Option Addr} {n c : Nat} {xs : List α} {g t : Nat} {cs : Array Value} (h : d.R e w base ok (.slice A n c) xs) (b : w.heap[g]? = some (.cells cs t (0, 0))) (ht : ∀ q, q ∈ e :: d.E → q ≠ t := by decide)
    (f : d.R e w base (fun k => ok k ∧ k ≠ g) (.slice A n c) xs → d.R e w' base (fun k => ok k ∧ k ≠ g) (.slice A n c) xs := by intro h_; (with_reducible repeat (first | apply Kd.R_alloc | apply Kd.R_drewN | apply Kd.R_drew)); repeat (first | with_reducible exact h_ | refine Kd.R_far ?_ (fun _ hk => hk.2) _)) : d.C w' A xs.length xs := (Kd.R_reads' (rF h b ht f)).2.2
theorem sR {α : Type} {d : Kd α} {e : Nat} {w w' : World} {base : Nat} {ok : Nat → Prop} {A : Option Addr} {n c : Nat} {xs : List α} {g t : Nat} {cs : Array Value} (h : Kd.S d e w base ok (.slice A n c) xs) (b : w.heap[g]? = some (.cells cs t (0, 0))) (ht : ∀ q, q ∈ e :: d.E → q ≠ t := by decide)
    (f : Kd.S d e w base (fun k => ok k ∧ k ≠ g) (.slice A n c) xs → Kd.S d e w' base (fun k => ok k ∧ k ≠ g) (.slice A n c) xs := by intro h_; (with_reducible repeat (first | apply Kd.S_alloc | apply Kd.S_drewN | apply Kd.S_drew)); repeat (first | with_reducible exact h_ | refine Kd.S_far ?_ (fun _ hk => hk.2) _)) : d.C w' A xs.length xs := (Kd.S_reads' (sF h b ht f)).2.2
theorem bc {w W : World} {p : Addr} {v : Value} (b : Below w.heap.size w W) (h : w.cell? p = some v) : W.cell? p = some v := (b.cell (World.block_lt_of_cell? w _ h)).trans h
theorem aM {p : Prop} (h : p) : Aside0 p := ⟨h⟩
theorem aS {w W0 W W1 : World} (h : Aside0 (Below w.heap.size w W0)) (b : Below W.heap.size W W1) (f : Below w.heap.size w W0 → Below w.heap.size w W := by intro h_; repeat (first | (with_reducible first | exact h_ | apply below_alloc | apply pw_below_drewN | apply below_drew1 | refine below_set ?_ (Aside0.out (by assumption))) | exact h_)) : Aside0 (Below w.heap.size w W1) := ⟨below_step (f h.out) b⟩
theorem aB {w0 w W : World} {g : Nat} {t : TypeId} {cs : Array Value} (h : Aside0 (w0.heap[g]? = some (.cells cs t (0, 0)))) (b : Below w.heap.size w W) (f : w0.heap[g]? = some (.cells cs t (0, 0)) → w.heap[g]? = some (.cells cs t (0, 0)) := by intro h_; (with_reducible repeat (first | refine blk_drewN ?_ _ | refine blk_drew ?_ | refine blk_alloc ?_ _)); exact h_) : Aside0 (W.heap[g]? = some (.cells cs t (0, 0))) := ⟨blk_below (f h.out) b⟩
theorem aF {w0 w W : World} {g : Nat} {t : TypeId} {cs : Array Value} (h : Aside0 (w0.heap[g]? = some (.cells cs t (0, 0)))) (b : Below w.heap.size w W) (f : w0.heap[g]? = some (.cells cs t (0, 0)) → w.heap[g]? = some (.cells cs t (0, 0)) := by intro h_; apply Eq.trans; (case h₁ => with_reducible repeat (first | exact h_ | apply blk_drewN | apply blk_drew | apply blk_alloc | (apply far_; exact Aside0.out (by assumption)) | apply blk_set)); rfl) : Aside0 (W.heap[g]? = some (.cells cs t (0, 0))) := ⟨blk_below (f h.out) b⟩
theorem aG {g : Nat} {w W0 W : World} (hg : g = W.heap.size) (h : Aside0 (Below w.heap.size w W0)) (f : Below w.heap.size w W0 → Below w.heap.size w W := by intro h_; repeat (first | (with_reducible first | exact h_ | apply below_alloc | apply pw_below_drewN | apply below_drew1 | refine below_set ?_ (Aside0.out (by assumption))) | exact h_)) : Aside0 (w.heap.size ≤ g) := ⟨gX' hg (f h.out)⟩
theorem aL {g g' : Nat} {w0 W : World} {t : TypeId} {cs : Array Value} (hg : g' = W.heap.size) (h : Aside0 (w0.heap[g]? = some (.cells cs t (0, 0)))) (f : w0.heap[g]? = some (.cells cs t (0, 0)) → W.heap[g]? = some (.cells cs t (0, 0)) := by intro h_; (with_reducible repeat (first | refine blk_drewN ?_ _ | refine blk_drew ?_ | refine blk_alloc ?_ _)); exact h_) : Aside0 (g ≠ g') := ⟨gL hg (f h.out)⟩
theorem aR {g g' : Nat} {w0 W : World} {t : TypeId} {cs : Array Value} (hg : g' = W.heap.size) (h : Aside0 (w0.heap[g]? = some (.cells cs t (0, 0)))) (f : w0.heap[g]? = some (.cells cs t (0, 0)) → W.heap[g]? = some (.cells cs t (0, 0)) := by intro h_; (with_reducible repeat (first | refine blk_drewN ?_ _ | refine blk_drew ?_ | refine blk_alloc ?_ _)); exact h_) : Aside0 (g' ≠ g) := ⟨gG hg (f h.out)⟩
theorem aQ {α : Type} {d : Kd α} {e : Nat} {w0 w W : World} {base : Nat} {ok : Nat → Prop} {v : Value} {xs : List α} (h : Aside0 (d.R e w0 base ok v xs)) (b : Below w.heap.size w W) (f : d.R e w0 base ok v xs → d.R e w base ok v xs := by intro h_; (with_reducible repeat (first | apply Kd.R_alloc | apply Kd.R_drewN | apply Kd.R_drew)); exact h_) : Aside0 (d.R e W base ok v xs) := ⟨Kd.R_below (f h.out) b⟩
theorem aT {α : Type} {d : Kd α} {e : Nat} {w0 w W : World} {base : Nat} {ok : Nat → Prop} {v : Value} {xs : List α} (h : Aside0 (Kd.S d e w0 base ok v xs)) (b : Below w.heap.size w W) (f : Kd.S d e w0 base ok v xs → Kd.S d e w base ok v xs := by intro h_; (with_reducible repeat (first | apply Kd.S_alloc | apply Kd.S_drewN | apply Kd.S_drew)); exact h_) : Aside0 (Kd.S d e W base ok v xs) := ⟨Kd.S_below (f h.out) b⟩
theorem sI {α : Type} {a b : α} (h : some a = some b) : a = b := Option.some.inj h
theorem at_ib {w w' : World} {A : Option Addr} {n : Nat} {k : IntKind} {xs : List Int} (h : (Kd.int k).C w A n xs) (b : Below w.heap.size w w') (i : Int) (h0 : 0 ≤ i) (h1 : i < n) : ∃ ad, A = some ad ∧ w'.cell? (ad.add i.toNat) = some (.int k (rd xs i)) := by
  obtain ⟨ad, e, c⟩ := Kd.at_int h i h0 h1
  exact ⟨ad, e, (b.cell (World.block_lt_of_cell? w _ c)).trans c⟩
section
variable {P : Program} {ops : Array Oper} {rest : List Oper} {o : Oper} {a : Act} {Q : Exit → Act → World → Prop} {W : World}
theorem boxF (N : Tmp) (cs : Array Value) (t : TypeId)
    (h : ∀ g, g = W.heap.size → ∀ w1, w1.heap[g]? = some (.cells cs t (0, 0)) → Below W.heap.size W w1 → wpList P ops Q rest (a.put o.dst (.pointer (some ⟨g, 0, none⟩))) w1)
    (hgd : o.guard = none := by rfl) (hd : o.dst = some N := by rfl)
    (hrun : (execOp a.eval o).run P W = .ok (.value (.pointer (some ⟨W.heap.size, 0, none⟩))) (W.alloc (.cells cs t (0, 0))) := by first | (go_simp; done) | (go_simp; rfl)) : wpList P ops Q (o :: rest) a W :=
  box_event hgd hd hrun h
end
end Go.Proofs.YthejoblnfpaojaaGreatZ
namespace Go.Proofs.YthejoblnfpaojaaGreatZ
open Go.RowKit Go.Proofs.YthejoblnfpaojaaGreatW.PrintWords Go.Proofs.YthejoblnfpaojaaGreatW.PrintLast
def CopyRuns (P : Program) (d s : Value) (elem : TypeId) (w : World) (K : Ending → World → Prop) : Prop :=
  ∀ (ops : Array Oper) (rest : List Oper) (o : Oper) (a : Act) (Q : Exit → Act → World → Prop) (x y : Operand) (dT sT : TypeId), o.guard = none → o.op = .call { callee := .builtin .copy, args := #[x, y], argTypes := #[dT, sT] } →
    P.underlying dT = some (.slice elem) → (P.info? elem).map (·.size) = some 1 → a.eval x = d → a.eval y = s → (∀ v w', K (.returned v) w' → wpList P ops Q rest (a.put o.dst v) w') → wpList P ops Q (o :: rest) a w
theorem CopyRuns.mono {P : Program} {d s : Value} {elem : TypeId} {w : World} {K K' : Ending → World → Prop} (h : CopyRuns P d s elem w K) (hm : ∀ e w', K e w' → K' e w') : CopyRuns P d s elem w K' :=
  fun ops rest o a Q x y dT sT h1 h2 h3 h4 h5 h6 h7 => h ops rest o a Q x y dT sT h1 h2 h3 h4 h5 h6 (fun v w' hk => h7 v w' (hm _ _ hk))
theorem goesCopy_ {P : Program} {ops : Array Oper} {Q : Exit → Act → World → Prop} {rest : List Oper} {oi : Oper} {a : Act} {w : World} (N : Option Tmp) (hd : oi.dst = N) (hg : oi.guard = none) {dT sT elem : TypeId} (hu : P.underlying dT = some (.slice elem)) (hsz : (P.info? elem).map (·.size) = some 1) {x y : Operand} (d s : Value)
    (hop : oi.op = .call { callee := .builtin .copy, args := #[x, y], argTypes := #[dT, sT] }) (hx : a.eval x = d) (hy : a.eval y = s)
    (h : CopyRuns P d s elem w fun e w' => ∃ v, e = .returned v ∧ wpList P ops Q rest (a.put N v) w') : wpList P ops Q (oi :: rest) a w := by
  refine h ops rest oi a Q x y dT sT hg hop hu hsz hx hy fun v w' ⟨v', e, hk⟩ => ?_
  injection e with e
  subst e
  subst hd
  exact hk
def copy_int.f (l0 l1 : List Int) : Option (Int × List Int) := some (((Nat.min l1.length l0.length : Nat) : Int), l1.take (Nat.min l1.length l0.length) ++ l0.drop (Nat.min l1.length l0.length))
theorem copy_int.calls {P : Program} (P0_ : Nat → Prop) (u9000_ : Value) (l0 : List Int) (A1 : Option Addr) (c1 : Nat) (l1 : List Int) (r1 : Int) (r2 : List Int) (w0 w : World) (hB : Below w0.heap.size w0 w) (ho0 : Kd.R (Kd.int .i64) 3 w w0.heap.size P0_ u9000_ l0)
    (hr1 : ∀ W_, Kept w W_ (fun k_ => P0_ k_) → Kd.C (Kd.int .i64) W_ A1 l1.length l1) (_hc1 : l1.length ≤ c1) (h : copy_int.f l0 l1 = some (r1, r2)) :
    CopyRuns P u9000_ (.slice A1 l1.length c1) 3 w fun e w' => e = .returned (.int .i64 r1) ∧ Kd.R (Kd.int .i64) 3 w' w0.heap.size (fun k_ => (P0_ k_ ∨ w.heap.size ≤ k_)) u9000_ r2 ∧ Below w0.heap.size w0 w' ∧ Kept w w' (fun k_ => P0_ k_) := by
  have h' : (((Nat.min l1.length l0.length : Nat) : Int), l1.take (Nat.min l1.length l0.length) ++ l0.drop (Nat.min l1.length l0.length)) = (r1, r2) := Option.some.inj h
  have hr1e : ((Nat.min l1.length l0.length : Nat) : Int) = r1 := congrArg Prod.fst h'
  have hr2e : l1.take (Nat.min l1.length l0.length) ++ l0.drop (Nat.min l1.length l0.length) = r2 := congrArg Prod.snd h'
  intro ops rest o a Q x y dT sT hg hop hu hsz hx hy hK
  have hC := hr1 w (Kept.refl _ _)
  have ho := Kd.own_of_R ho0
  by_cases hm : Nat.min l1.length l0.length = 0
  · have e2 : r2 = l0 := by rw [← hr2e, hm]; simp
    have e1 : r1 = 0 := by rw [← hr1e, hm]; rfl
    obtain ⟨dp, dc, hv⟩ : ∃ dp dc, u9000_ = .slice dp l0.length dc := by
      rcases ho.2 with ⟨hv, hn⟩ | ⟨g, cap, cur, hv, _⟩
      · exact ⟨none, 0, by rw [hv, hn]⟩
      · exact ⟨_, _, hv⟩
    refine wpList_copy_nothing hg x y dT sT hop 3 hu hsz dp A1 l0.length dc l1.length c1 (by rw [hx, hv]) hy hm ?_
    refine hK (goInt 0) w ⟨by rw [e1]; rfl, ?_, hB, Kept.refl _ _⟩
    rw [e2]
    exact Kd.R_mono ho0 (fun k_ hk => .inl hk)
  · have hm1 : 0 < l1.length := by
      apply Classical.byContradiction
      intro hn
      exact hm (by rw [show l1.length = 0 by omega]; simp)
    rcases ho.2 with ⟨hv, hn⟩ | ⟨g, cap, cur, hv, hbase, hgc, hnc, hcap, hcs, htake⟩
    · exact absurd (by rw [hn]; simp) hm
    · obtain ⟨ad, rfl, hc⟩ := hC.2.2 hm1
      have hcell : ∀ (j : Nat) (z : Int), l1[j]? = some z → w.cell? (ad.add j) = some (.int .i64 z) := by
        intro j z hj
        obtain ⟨c, _, hKc, hu_⟩ := hc j z hj
        have hK' : c = [.int .i64 z] := hKc
        have := hu_ 0 (.int .i64 z) (by rw [hK']; rfl)
        simpa [Kd.int, Kd.scalar] using this
      have hml0 : Nat.min l1.length l0.length ≤ l0.length := Nat.min_le_right _ _
      have hml1 : Nat.min l1.length l0.length ≤ l1.length := Nat.min_le_left _ _
      have hcl : ((l1.take (Nat.min l1.length l0.length)).map (Value.int .i64)).length = Nat.min l1.length l0.length := by
        rw [List.length_map, List.length_take]; exact Nat.min_eq_left hml1
      refine wpList_copy_own hg x y dT sT hop 3 hu hsz g 0 l0.length cap ad l1.length c1 (by rw [hx, hv]) hy cur 3 hgc ((l1.take (Nat.min l1.length l0.length)).map (Value.int .i64)) hcl ?_ ?_ ?_ ?_
      · intro j v hj
        rw [List.getElem?_map] at hj
        obtain ⟨z, hz, rfl⟩ := Option.map_eq_some_iff.mp hj
        rw [List.getElem?_take] at hz
        split at hz
        · exact hcell j z hz
        · cases hz
      · rw [hcl]; omega
      · intro v hv
        obtain ⟨z, _, rfl⟩ := List.mem_map.mp hv
        rfl
      · rw [hcl]
        have hr2l : r2.length = l0.length := by
          rw [← hr2e, List.length_append, List.length_take, List.length_drop]
          have := Nat.min_eq_left hml1
          omega
        refine hK (goInt _) _ ⟨by rw [← hr1e]; rfl, ?_, below_setRow hB hbase _, ?_, ?_⟩
        · refine Kd.R_of_own (enc := Value.int .i64) (h1 := fun _ => rfl) ⟨by rw [Nat.mul_one, encs_length], Or.inr ⟨g, cap, _, ?_, hbase, setRow_heap w g cur _ 3 (0, 0) hgc, ?_, hcap, ?_, ?_⟩⟩ ?_
          · rw [hr2l]; exact hv
          · rw [hr2l]; exact hnc
          · simp only [List.size_toArray, List.length_append, List.length_take, List.length_drop, hcl, Array.length_toList]
            omega
          · have htake' : cur.toList.take l0.length = l0.map (Value.int .i64) := by rw [Nat.mul_one] at htake; exact htake
            have e : encs (Value.int .i64) r2 = r2.map (Value.int .i64) := rfl
            rw [hr2l, Nat.mul_one, e, ← hr2e, List.map_append, List.map_drop, ← htake']
            rw [List.take_zero, List.nil_append, Nat.zero_add, List.take_append, hcl, List.drop_take]
            congr 1
            rw [List.take_of_length_le (by rw [hcl]; exact hml0)]
          · intro k hk
            exact Or.inl (ho0.1 k hk)
        · rw [setRow_size]; exact Nat.le_refl _
        · intro i hi hn
          refine setRow_other w g i _ (fun e => hn ?_)
          rw [e]
          exact ho0.1 g (by rw [hv]; rfl)
end Go.Proofs.YthejoblnfpaojaaGreatZ
namespace Go.Proofs.YthejoblnfpaojaaGreatW.PrintWords
end Go.Proofs.YthejoblnfpaojaaGreatW.PrintWords
namespace Go.Proofs.YthejoblnfpaojaaGreatZ
open Go.RowKit Go.Proofs.YthejoblnfpaojaaGreatW.PrintWords
def EvB (g : Nat → Option Bool) (p : Prop) : Prop := ∃ r : Bool, Ev g r ∧ (r = true ↔ p)
section
variable {g f : Nat → Option Bool} {p q : Prop}
theorem EvB.yes (h : Ev g true) (hp : p) : EvB g p := ⟨true, h, iff_of_true rfl hp⟩
theorem EvB.no (h : Ev g false) (hp : ¬ p) : EvB g p := ⟨false, h, iff_of_false (by decide) hp⟩
theorem EvB.iff (h : EvB g p) (e : p ↔ q) : EvB g q := h.elim fun r hr => ⟨r, hr.1, hr.2.trans e⟩
theorem EvB.now {b : Bool} (h : b = true ↔ p) : EvB (fun _ => some b) p := ⟨b, Ev.now _, h⟩
theorem EvB.shift (h : EvB (fun k => g (k + 1)) p) : EvB g p := h.elim fun r hr => ⟨r, Ev.shift hr.1, hr.2⟩
theorem EvB.pos {c : Prop} [Decidable c] (h : c) (hg : EvB g p) : EvB (fun k => if c then g k else f k) p := hg.elim fun r hr => ⟨r, Ev.pos h hr.1, hr.2⟩
theorem EvB.neg {c : Prop} [Decidable c] (h : ¬ c) (hg : EvB f p) : EvB (fun k => if c then g k else f k) p := hg.elim fun r hr => ⟨r, Ev.neg h hr.1, hr.2⟩
theorem EvB.ite {c : Prop} [Decidable c] (hg : c → EvB g p) (hf : ¬ c → EvB f p) : EvB (fun k => if c then g k else f k) p := by
  by_cases h : c
  · exact EvB.pos h (hg h)
  · exact EvB.neg h (hf h)
theorem EvB.val (h : EvB g p) (hp : p) : Ev g true := h.elim fun r hr => by obtain rfl := hr.2.2 hp; exact hr.1
theorem EvB.nval (h : EvB g p) (hp : ¬ p) : Ev g false := h.elim fun r hr => by
  cases r with
  | false => exact hr.1
  | true => exact absurd (hr.2.1 rfl) hp
end
theorem EvB.then_ {α : Type} {g : Nat → Option Bool} {p : Prop} {F : Nat → Bool → Option α} {r : α} (h : EvB g p) (ht : p → Ev (fun k => F k true) r) (hf : ¬ p → Ev (fun k => F k false) r) : Ev (fun k => (g k).bind (F k)) r := by
  by_cases hp : p
  · exact Ev.bind (h.val hp) (ht hp)
  · exact Ev.bind (h.nval hp) (hf hp)
theorem EvB.bind {g : Nat → Option Bool} {p q : Prop} {F : Nat → Bool → Option Bool} (h : EvB g p) (ht : p → EvB (fun k => F k true) q) (hf : ¬ p → EvB (fun k => F k false) q) : EvB (fun k => (g k).bind (F k)) q := by
  by_cases hp : p
  · obtain ⟨r, h1, h2⟩ := ht hp
    exact ⟨r, Ev.bind (h.val hp) h1, h2⟩
  · obtain ⟨r, h1, h2⟩ := hf hp
    exact ⟨r, Ev.bind (h.nval hp) h1, h2⟩
theorem EvB.at {α : Type} {g : Nat → Option α} {a : α} {q : Prop} {F : Nat → α → Option Bool} (h : Ev g a) (ht : EvB (fun k => F k a) q) : EvB (fun k => (g k).bind (F k)) q := ht.elim fun r hr => ⟨r, Ev.bind h hr.1, hr.2⟩
theorem EvB.loop {n : Nat} {P : Nat → Prop} {Q : Prop} {g : Nat → Nat → Option Bool} (hend : (∀ i, i < n → P i) → EvB (g n) Q)
    (hbad : ∀ i, i < n → (∀ j, j < i → P j) → ¬ P i → Ev (g i) false)
    (hgood : ∀ i, i < n → (∀ j, j < i → P j) → P i → ∀ r, Ev (g (i + 1)) r → Ev (g i) r) : EvB (g 0) ((∀ i, i < n → P i) ∧ Q) := by
  have key : ∀ d i, i + d = n → (∀ j, j < i → P j) → EvB (g i) ((∀ i, i < n → P i) ∧ Q) := by
    intro d
    induction d with
    | zero =>
      intro i hi hp
      obtain rfl : i = n := by omega
      exact (hend hp).iff ⟨fun q => ⟨hp, q⟩, fun a => a.2⟩
    | succ d ih =>
      intro i hi hp
      by_cases h : P i
      · obtain ⟨r, h1, h2⟩ := ih (i + 1) (by omega) (fun j hj => by
          rcases Nat.lt_succ_iff_lt_or_eq.mp hj with a | a
          · exact hp j a
          · rw [a]; exact h)
        exact ⟨r, hgood i (by omega) hp h r h1, h2⟩
      · exact EvB.no (hbad i (by omega) hp h) (fun a => h (a.1 i (by omega)))
  exact key n 0 (by omega) (fun j hj => absurd hj (Nat.not_lt_zero _))
section
variable {τ : Type}
theorem each_iff {xs : List τ} {R : Nat → τ → Prop} : (∀ i, i < xs.length → ∀ x, xs[i]? = some x → R i x) ↔ (∀ i x, xs[i]? = some x → R i x) :=
  ⟨fun h i x hx => h i (List.getElem?_eq_some_iff.mp hx).1 x hx, fun h i _ x hx => h i x hx⟩
theorem each_mem {xs : List τ} {R : τ → Prop} : (∀ (i : Nat) x, xs[i]? = some x → R x) ↔ (∀ x ∈ xs, R x) :=
  ⟨fun h x hx => by obtain ⟨i, hi, e⟩ := List.mem_iff_getElem.mp hx; exact h i x (by rw [← e]; exact List.getElem?_eq_getElem hi), fun h i x (hx : xs[i]? = some x) => h x (List.mem_of_getElem? hx)⟩
theorem EvB.each (xs : List τ) {R : Nat → τ → Prop} {Q : Prop} {g : Nat → Nat → Option Bool} (hend : (∀ i x, xs[i]? = some x → R i x) → EvB (g xs.length) Q)
    (hbad : ∀ i x, xs[i]? = some x → i < xs.length → (∀ j, j < i → ∀ y, xs[j]? = some y → R j y) → ¬ R i x → Ev (g i) false)
    (hgood : ∀ i x, xs[i]? = some x → i < xs.length → (∀ j, j < i → ∀ y, xs[j]? = some y → R j y) → R i x → ∀ r, Ev (g (i + 1)) r → Ev (g i) r) : EvB (g 0) ((∀ i x, xs[i]? = some x → R i x) ∧ Q) := by
  refine (EvB.loop (n := xs.length) (P := fun i => ∀ x, xs[i]? = some x → R i x) (fun h => hend (each_iff.mp h)) (fun i hi hp hn => ?_) (fun i hi hp hr r h => ?_)).iff (by rw [each_iff])
  · refine hbad i xs[i] (List.getElem?_eq_getElem hi) hi hp (fun a => hn fun x hx => ?_)
    rw [List.getElem?_eq_getElem hi] at hx
    obtain rfl := Option.some.inj hx
    exact a
  · exact hgood i xs[i] (List.getElem?_eq_getElem hi) hi hp (hr _ (List.getElem?_eq_getElem hi)) r h
theorem first_ev (xs : List τ) (R : τ → Prop) {g : Nat → Nat → Option Int} (hend : Ev (g xs.length) (-1))
    (hyes : ∀ i x, xs[i]? = some x → i < xs.length → R x → Ev (g i) (i : Int))
    (hno : ∀ i x, xs[i]? = some x → i < xs.length → ¬ R x → ∀ r, Ev (g (i + 1)) r → Ev (g i) r) : ∃ r : Int, Ev (g 0) r ∧ -1 ≤ r ∧ (r ≥ 0 ↔ ∃ x ∈ xs, R x) := by
  have key : ∀ d i, i + d = xs.length → ∃ r : Int, Ev (g i) r ∧ -1 ≤ r ∧ (r ≥ 0 ↔ ∃ x ∈ xs.drop i, R x) := by
    intro d
    induction d with
    | zero =>
      intro i hi
      obtain rfl : i = xs.length := by omega
      refine ⟨-1, hend, by omega, iff_of_false (by omega) ?_⟩
      rw [List.drop_length]
      rintro ⟨x, hx, _⟩
      cases hx
    | succ d ih =>
      intro i hi
      have hil : i < xs.length := by omega
      rw [List.drop_eq_getElem_cons hil]
      by_cases h : R xs[i]
      · exact ⟨i, hyes i xs[i] (List.getElem?_eq_getElem hil) hil h, by omega, iff_of_true (by omega) ⟨_, List.mem_cons_self, h⟩⟩
      · obtain ⟨r, h1, h2, h3⟩ := ih (i + 1) (by omega)
        refine ⟨r, hno i xs[i] (List.getElem?_eq_getElem hil) hil h r h1, h2, h3.trans ?_⟩
        constructor
        · rintro ⟨x, hx, hr⟩; exact ⟨x, List.mem_cons_of_mem _ hx, hr⟩
        · rintro ⟨x, hx, hr⟩
          rcases List.mem_cons.mp hx with a | a
          · rw [a] at hr; exact absurd hr h
          · exact ⟨x, a, hr⟩
  obtain ⟨r, h1, h2, h3⟩ := key xs.length 0 (by omega)
  exact ⟨r, h1, h2, by rw [List.drop_zero] at h3; exact h3⟩
end
end Go.Proofs.YthejoblnfpaojaaGreatZ
namespace Go.Proofs.YthejoblnfpaojaaGreat.P
open Go.RowKit Go.Proofs.YthejoblnfpaojaaGreatW.PrintWords Go.Proofs.YthejoblnfpaojaaGreatW.PrintLast Go.Proofs.YthejoblnfpaojaaGreatZ
section
variable {α β:Type}
def Got (o:Option α) (P:α→Prop):Prop:=∃ a,o=some a∧P a
theorem Got.bind {o:Option α} {f:α→Option β} {P:α→Prop} {Q:β→Prop} (h:Got o P) (hf:∀ a,P a→Got (f a) Q):Got (o.bind f) Q:=by
 obtain⟨a,rfl,hp⟩:=h
 exact hf a hp
theorem Got.now {a:α} {P:α→Prop} (h:P a):Got (some a) P:=⟨a,rfl,h⟩
theorem Got.pos {p:Prop} [Decidable p] {a b:Option α} {P:α→Prop} (hp:p) (h:Got a P):Got (if p then a else b) P:=by rw[if_pos hp];exact h
theorem Got.neg {p:Prop} [Decidable p] {a b:Option α} {P:α→Prop} (hp:¬ p) (h:Got b P):Got (if p then a else b) P:=by rw[if_neg hp];exact h
theorem Got.ite {p:Prop} [Decidable p] {a b:Option α} {P:α→Prop} (h1:p→Got a P) (h2:¬ p→Got b P):Got (if p then a else b) P:=by
 by_cases h:p
 ·exact Got.pos h (h1 h)
 ·exact Got.neg h (h2 h)
theorem Got.mono {o:Option α} {P Q:α→Prop} (h:Got o P) (f:∀ a,P a→Q a):Got o Q:=by obtain⟨a,h1,h2⟩:=h;exact⟨a,h1,f a h2⟩
def EvG (g:Nat→Option α) (P:α→Prop):Prop:=∃ a,Ev g a∧P a
theorem EvG.of_got {o:Option α} {P:α→Prop} (h:Got o P):EvG (fun _=>o) P:=by obtain⟨a,rfl,hp⟩:=h;exact⟨a,Ev.now _,hp⟩
theorem EvG.of_ev {g:Nat→Option α} {P:α→Prop} {a:α} (h:Ev g a) (hp:P a):EvG g P:=⟨a,h,hp⟩
theorem EvG.now {a:α} {P:α→Prop} (h:P a):EvG (fun _=>some a) P:=⟨a,Ev.now _,h⟩
theorem EvG.bind {g:Nat→Option α} {f:α→Nat→Option β} {P:α→Prop} {Q:β→Prop} (h:EvG g P) (hf:∀ a,P a→EvG (f a) Q):EvG (fun k=>(g k).bind fun a=>f a k) Q:=by
 obtain⟨a,h1,hp⟩:=h
 obtain⟨b,h2,hq⟩:=hf a hp
 exact⟨b,Ev.bind h1 h2,hq⟩
theorem EvG.shift {g:Nat→Option α} {P:α→Prop} (h:EvG (fun k=>g (k+1)) P):EvG g P:=by obtain⟨a,h1,hp⟩:=h;exact⟨a,Ev.shift h1,hp⟩
theorem EvG.pos {p:Prop} [Decidable p] {a b:Nat→Option α} {P:α→Prop} (hp:p) (h:EvG a P):EvG (fun k=>if p then a k else b k) P:=by simp only[hp,if_true];exact h
theorem EvG.neg {p:Prop} [Decidable p] {a b:Nat→Option α} {P:α→Prop} (hp:¬ p) (h:EvG b P):EvG (fun k=>if p then a k else b k) P:=by simp only[hp,if_false];exact h
theorem EvG.ite {p:Prop} [Decidable p] {a b:Nat→Option α} {P:α→Prop} (h1:p→EvG a P) (h2:¬ p→EvG b P):EvG (fun k=>if p then a k else b k) P:=by
 by_cases h:p
 ·exact EvG.pos h (h1 h)
 ·exact EvG.neg h (h2 h)
theorem EvG.mono {g:Nat→Option α} {P Q:α→Prop} (h:EvG g P) (f:∀ a,P a→Q a):EvG g Q:=by obtain⟨a,h1,h2⟩:=h;exact⟨a,h1,f a h2⟩
end
end Go.Proofs.YthejoblnfpaojaaGreat.P
