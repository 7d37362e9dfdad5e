/- A part of the proof of the law FnExactJudgeSo: texts of this seat, merged (words, printed functions of the program, plain lemmas). Conditions: none of its own. -/
import Derived.Test.YtmljebgideecjaaGreatP2kFnExactJudgeSo1
import Derived.Test.YtmljebgideecjaaGreatP2kFnExactJudgeSo4
import Derived.Test.YtmljebgideecjaaGreatP2kFnExactJudgeSo5
set_option linter.unusedSimpArgs false
set_option linter.unusedVariables false
set_option maxHeartbeats 8000000
set_option maxRecDepth 100000
namespace Go.Proofs.YtmljebgideecjaaGreat.P2
open Go.Proofs.YtmljebgideecjaaGreatZ Go.RowKit Go.Proofs.YtmljebgideecjaaGreatW.PrintWords Go.Proofs.YtmljebgideecjaaGreatW.PrintLast Go.Proofs.YtmljebgideecjaaGreatW.PrintMore
theorem at_T176b {w w' : World} {A : Option Addr} {n : Nat} {xs : List S176} (h : Kd.C k176 w A n xs) (b : Below w.heap.size w w') (i : Int) (h0 : 0 ≤ i) (h1 : i < n) : ∃ ad , A = some ad ∧ w'.cell? (ad.add (i.toNat * 3)) = some (.int .i64 (rd_T176 xs i).f0) ∧ w'.cell? ⟨(ad.add (i.toNat * 3)).block, (ad.add (i.toNat * 3)).off + 1, none⟩ = some (.int .i64 (rd_T176 xs i).f1) ∧ w'.cell? ⟨(ad.add (i.toNat * 3)).block, (ad.add (i.toNat * 3)).off + 2, none⟩ = some (.int .i64 (rd_T176 xs i).f2) := by
 obtain ⟨ad, h0_, h1_, h2_, h3_⟩ := at_T176 h i h0 h1
 exact ⟨ad, h0_, (b.cell (World.block_lt_of_cell? w _ h1_)).trans h1_, (b.cell (World.block_lt_of_cell? w _ h2_)).trans h2_, (b.cell (World.block_lt_of_cell? w _ h3_)).trans h3_⟩
theorem at_T224b {w w' : World} {A : Option Addr} {n : Nat} {xs : List S224} (h : Kd.C k224 w A n xs) (b : Below w.heap.size w w') (i : Int) (h0 : 0 ≤ i) (h1 : i < n) : ∃ ad , A = some ad ∧ w'.cell? (ad.add (i.toNat * 3)) = some (.int .i64 (rd_T224 xs i).f0) ∧ w'.cell? ⟨(ad.add (i.toNat * 3)).block, (ad.add (i.toNat * 3)).off + 1, none⟩ = some (.int .i64 (rd_T224 xs i).f1) ∧ w'.cell? ⟨(ad.add (i.toNat * 3)).block, (ad.add (i.toNat * 3)).off + 2, none⟩ = some (.int .i64 (rd_T224 xs i).f2) := by
 obtain ⟨ad, h0_, h1_, h2_, h3_⟩ := at_T224 h i h0 h1
 exact ⟨ad, h0_, (b.cell (World.block_lt_of_cell? w _ h1_)).trans h1_, (b.cell (World.block_lt_of_cell? w _ h2_)).trans h2_, (b.cell (World.block_lt_of_cell? w _ h3_)).trans h3_⟩
theorem at_T155b {w w' : World} {A : Option Addr} {n : Nat} {xs : List S155} (h : Kd.C k155 w A n xs) (b : Below w.heap.size w w') (i : Int) (h0 : 0 ≤ i) (h1 : i < n) : ∃ ad A2 c2 A4 c4, A = some ad ∧ w'.cell? (ad.add (i.toNat * 5)) = some (.int .i64 (rd_T155 xs i).f0) ∧ w'.cell? ⟨(ad.add (i.toNat * 5)).block, (ad.add (i.toNat * 5)).off + 1, none⟩ = some (.int .i64 (rd_T155 xs i).f1) ∧ w'.cell? ⟨(ad.add (i.toNat * 5)).block, (ad.add (i.toNat * 5)).off + 2, none⟩ = some (.slice A2 (rd_T155 xs i).f2.length c2) ∧ w'.cell? ⟨(ad.add (i.toNat * 5)).block, (ad.add (i.toNat * 5)).off + 3, none⟩ = some (.int .i64 (rd_T155 xs i).f3.f0) ∧ w'.cell? ⟨(ad.add (i.toNat * 5)).block, (ad.add (i.toNat * 5)).off + 4, none⟩ = some (.slice A4 (rd_T155 xs i).f3.f1.length c4) ∧ (rd_T155 xs i).f2.length ≤ c2 ∧ k224.C w A2 (rd_T155 xs i).f2.length (rd_T155 xs i).f2 ∧ (rd_T155 xs i).f3.f1.length ≤ c4 ∧ (Kd.int .i64).C w A4 (rd_T155 xs i).f3.f1.length (rd_T155 xs i).f3.f1 := by
 obtain ⟨ad, A2, c2, A4, c4, h0_, h1_, h2_, h3_, h4_, h5_, h6_, h7_, h8_, h9_⟩ := at_T155 h i h0 h1
 exact ⟨ad, A2, c2, A4, c4, h0_, (b.cell (World.block_lt_of_cell? w _ h1_)).trans h1_, (b.cell (World.block_lt_of_cell? w _ h2_)).trans h2_, (b.cell (World.block_lt_of_cell? w _ h3_)).trans h3_, (b.cell (World.block_lt_of_cell? w _ h4_)).trans h4_, (b.cell (World.block_lt_of_cell? w _ h5_)).trans h5_, h6_, h7_, h8_, h9_⟩
theorem at_T116b {w w' : World} {A : Option Addr} {n : Nat} {xs : List S116} (h : Kd.C k116 w A n xs) (b : Below w.heap.size w w') (i : Int) (h0 : 0 ≤ i) (h1 : i < n) : ∃ ad , A = some ad ∧ w'.cell? (ad.add (i.toNat * 3)) = some (.int .i64 (rd_T116 xs i).f0) ∧ w'.cell? ⟨(ad.add (i.toNat * 3)).block, (ad.add (i.toNat * 3)).off + 1, none⟩ = some (.int .i64 (rd_T116 xs i).f1) ∧ w'.cell? ⟨(ad.add (i.toNat * 3)).block, (ad.add (i.toNat * 3)).off + 2, none⟩ = some (.int .i64 (rd_T116 xs i).f2) := by
 obtain ⟨ad, h0_, h1_, h2_, h3_⟩ := at_T116 h i h0 h1
 exact ⟨ad, h0_, (b.cell (World.block_lt_of_cell? w _ h1_)).trans h1_, (b.cell (World.block_lt_of_cell? w _ h2_)).trans h2_, (b.cell (World.block_lt_of_cell? w _ h3_)).trans h3_⟩
theorem at_T204b {w w' : World} {A : Option Addr} {n : Nat} {xs : List S204} (h : Kd.C k204 w A n xs) (b : Below w.heap.size w w') (i : Int) (h0 : 0 ≤ i) (h1 : i < n) : ∃ ad , A = some ad ∧ w'.cell? (ad.add (i.toNat * 2)) = some (.int .i64 (rd_T204 xs i).f0) ∧ w'.cell? ⟨(ad.add (i.toNat * 2)).block, (ad.add (i.toNat * 2)).off + 1, none⟩ = some (.int .i64 (rd_T204 xs i).f1) := by
 obtain ⟨ad, h0_, h1_, h2_⟩ := at_T204 h i h0 h1
 exact ⟨ad, h0_, (b.cell (World.block_lt_of_cell? w _ h1_)).trans h1_, (b.cell (World.block_lt_of_cell? w _ h2_)).trans h2_⟩
theorem at_T206b {w w' : World} {A : Option Addr} {n : Nat} {xs : List S206} (h : Kd.C k206 w A n xs) (b : Below w.heap.size w w') (i : Int) (h0 : 0 ≤ i) (h1 : i < n) : ∃ ad , A = some ad ∧ w'.cell? (ad.add (i.toNat * 4)) = some (.int .i64 (rd_T206 xs i).f0) ∧ w'.cell? ⟨(ad.add (i.toNat * 4)).block, (ad.add (i.toNat * 4)).off + 1, none⟩ = some (.int .i64 (rd_T206 xs i).f1) ∧ w'.cell? ⟨(ad.add (i.toNat * 4)).block, (ad.add (i.toNat * 4)).off + 2, none⟩ = some (.int .i64 (rd_T206 xs i).f2) ∧ w'.cell? ⟨(ad.add (i.toNat * 4)).block, (ad.add (i.toNat * 4)).off + 3, none⟩ = some (.int .i64 (rd_T206 xs i).f3) := by
 obtain ⟨ad, h0_, h1_, h2_, h3_, h4_⟩ := at_T206 h i h0 h1
 exact ⟨ad, h0_, (b.cell (World.block_lt_of_cell? w _ h1_)).trans h1_, (b.cell (World.block_lt_of_cell? w _ h2_)).trans h2_, (b.cell (World.block_lt_of_cell? w _ h3_)).trans h3_, (b.cell (World.block_lt_of_cell? w _ h4_)).trans h4_⟩
theorem at_T114b {w w' : World} {A : Option Addr} {n : Nat} {xs : List S114} (h : Kd.C k114 w A n xs) (b : Below w.heap.size w w') (i : Int) (h0 : 0 ≤ i) (h1 : i < n) : ∃ ad A0 c0 A3 c3 A4 c4, A = some ad ∧ w'.cell? (ad.add (i.toNat * 5)) = some (.slice A0 (rd_T114 xs i).f0.length c0) ∧ w'.cell? ⟨(ad.add (i.toNat * 5)).block, (ad.add (i.toNat * 5)).off + 1, none⟩ = some (.int .i64 (rd_T114 xs i).f1) ∧ w'.cell? ⟨(ad.add (i.toNat * 5)).block, (ad.add (i.toNat * 5)).off + 2, none⟩ = some (.bool (rd_T114 xs i).f2) ∧ w'.cell? ⟨(ad.add (i.toNat * 5)).block, (ad.add (i.toNat * 5)).off + 3, none⟩ = some (.slice A3 (rd_T114 xs i).f3.length c3) ∧ w'.cell? ⟨(ad.add (i.toNat * 5)).block, (ad.add (i.toNat * 5)).off + 4, none⟩ = some (.slice A4 (rd_T114 xs i).f4.length c4) ∧ (rd_T114 xs i).f0.length ≤ c0 ∧ k116.C w A0 (rd_T114 xs i).f0.length (rd_T114 xs i).f0 ∧ (rd_T114 xs i).f3.length ≤ c3 ∧ k204.C w A3 (rd_T114 xs i).f3.length (rd_T114 xs i).f3 ∧ (rd_T114 xs i).f4.length ≤ c4 ∧ k206.C w A4 (rd_T114 xs i).f4.length (rd_T114 xs i).f4 := by
 obtain ⟨ad, A0, c0, A3, c3, A4, c4, h0_, h1_, h2_, h3_, h4_, h5_, h6_, h7_, h8_, h9_, h10_, h11_⟩ := at_T114 h i h0 h1
 exact ⟨ad, A0, c0, A3, c3, A4, c4, h0_, (b.cell (World.block_lt_of_cell? w _ h1_)).trans h1_, (b.cell (World.block_lt_of_cell? w _ h2_)).trans h2_, (b.cell (World.block_lt_of_cell? w _ h3_)).trans h3_, (b.cell (World.block_lt_of_cell? w _ h4_)).trans h4_, (b.cell (World.block_lt_of_cell? w _ h5_)).trans h5_, h6_, h7_, h8_, h9_, h10_, h11_⟩
theorem at_T119b {w w' : World} {A : Option Addr} {n : Nat} {xs : List S119} (h : Kd.C k119 w A n xs) (b : Below w.heap.size w w') (i : Int) (h0 : 0 ≤ i) (h1 : i < n) : ∃ ad A8 c8, A = some ad ∧ w'.cell? (ad.add (i.toNat * 9)) = some (.int .i64 (rd_T119 xs i).f0) ∧ w'.cell? ⟨(ad.add (i.toNat * 9)).block, (ad.add (i.toNat * 9)).off + 1, none⟩ = some (.int .i64 (rd_T119 xs i).f1.f0) ∧ w'.cell? ⟨(ad.add (i.toNat * 9)).block, (ad.add (i.toNat * 9)).off + 2, none⟩ = some (.int .i64 (rd_T119 xs i).f1.f1) ∧ w'.cell? ⟨(ad.add (i.toNat * 9)).block, (ad.add (i.toNat * 9)).off + 3, none⟩ = some (.int .i64 (rd_T119 xs i).f1.f2) ∧ w'.cell? ⟨(ad.add (i.toNat * 9)).block, (ad.add (i.toNat * 9)).off + 4, none⟩ = some (.int .i64 (rd_T119 xs i).f2) ∧ w'.cell? ⟨(ad.add (i.toNat * 9)).block, (ad.add (i.toNat * 9)).off + 5, none⟩ = some (.int .i64 (rd_T119 xs i).f3) ∧ w'.cell? ⟨(ad.add (i.toNat * 9)).block, (ad.add (i.toNat * 9)).off + 6, none⟩ = some (.int .i64 (rd_T119 xs i).f4) ∧ w'.cell? ⟨(ad.add (i.toNat * 9)).block, (ad.add (i.toNat * 9)).off + 7, none⟩ = some (.int .i64 (rd_T119 xs i).f5.f0) ∧ w'.cell? ⟨(ad.add (i.toNat * 9)).block, (ad.add (i.toNat * 9)).off + 8, none⟩ = some (.slice A8 (rd_T119 xs i).f5.f1.length c8) ∧ (rd_T119 xs i).f5.f1.length ≤ c8 ∧ (Kd.int .i64).C w A8 (rd_T119 xs i).f5.f1.length (rd_T119 xs i).f5.f1 := by
 obtain ⟨ad, A8, c8, h0_, h1_, h2_, h3_, h4_, h5_, h6_, h7_, h8_, h9_, h10_, h11_⟩ := at_T119 h i h0 h1
 exact ⟨ad, A8, c8, h0_, (b.cell (World.block_lt_of_cell? w _ h1_)).trans h1_, (b.cell (World.block_lt_of_cell? w _ h2_)).trans h2_, (b.cell (World.block_lt_of_cell? w _ h3_)).trans h3_, (b.cell (World.block_lt_of_cell? w _ h4_)).trans h4_, (b.cell (World.block_lt_of_cell? w _ h5_)).trans h5_, (b.cell (World.block_lt_of_cell? w _ h6_)).trans h6_, (b.cell (World.block_lt_of_cell? w _ h7_)).trans h7_, (b.cell (World.block_lt_of_cell? w _ h8_)).trans h8_, (b.cell (World.block_lt_of_cell? w _ h9_)).trans h9_, h10_, h11_⟩
theorem at_T165b {w w' : World} {A : Option Addr} {n : Nat} {xs : List S165} (h : Kd.C k165 w A n xs) (b : Below w.heap.size w w') (i : Int) (h0 : 0 ≤ i) (h1 : i < n) : ∃ ad , A = some ad ∧ w'.cell? (ad.add (i.toNat * 3)) = some (.int .i64 (rd_T165 xs i).f0) ∧ w'.cell? ⟨(ad.add (i.toNat * 3)).block, (ad.add (i.toNat * 3)).off + 1, none⟩ = some (.int .i64 (rd_T165 xs i).f1) ∧ w'.cell? ⟨(ad.add (i.toNat * 3)).block, (ad.add (i.toNat * 3)).off + 2, none⟩ = some (.int .i64 (rd_T165 xs i).f2) := by
 obtain ⟨ad, h0_, h1_, h2_, h3_⟩ := at_T165 h i h0 h1
 exact ⟨ad, h0_, (b.cell (World.block_lt_of_cell? w _ h1_)).trans h1_, (b.cell (World.block_lt_of_cell? w _ h2_)).trans h2_, (b.cell (World.block_lt_of_cell? w _ h3_)).trans h3_⟩
theorem at_T162b {w w' : World} {A : Option Addr} {n : Nat} {xs : List S162} (h : Kd.C k162 w A n xs) (b : Below w.heap.size w w') (i : Int) (h0 : 0 ≤ i) (h1 : i < n) : ∃ ad A2 c2 A4 c4, A = some ad ∧ w'.cell? (ad.add (i.toNat * 5)) = some (.int .i64 (rd_T162 xs i).f0) ∧ w'.cell? ⟨(ad.add (i.toNat * 5)).block, (ad.add (i.toNat * 5)).off + 1, none⟩ = some (.int .i64 (rd_T162 xs i).f1) ∧ w'.cell? ⟨(ad.add (i.toNat * 5)).block, (ad.add (i.toNat * 5)).off + 2, none⟩ = some (.slice A2 (rd_T162 xs i).f2.length c2) ∧ w'.cell? ⟨(ad.add (i.toNat * 5)).block, (ad.add (i.toNat * 5)).off + 3, none⟩ = some (.int .i64 (rd_T162 xs i).f3.f0) ∧ w'.cell? ⟨(ad.add (i.toNat * 5)).block, (ad.add (i.toNat * 5)).off + 4, none⟩ = some (.slice A4 (rd_T162 xs i).f3.f1.length c4) ∧ (rd_T162 xs i).f2.length ≤ c2 ∧ k165.C w A2 (rd_T162 xs i).f2.length (rd_T162 xs i).f2 ∧ (rd_T162 xs i).f3.f1.length ≤ c4 ∧ (Kd.int .i64).C w A4 (rd_T162 xs i).f3.f1.length (rd_T162 xs i).f3.f1 := by
 obtain ⟨ad, A2, c2, A4, c4, h0_, h1_, h2_, h3_, h4_, h5_, h6_, h7_, h8_, h9_⟩ := at_T162 h i h0 h1
 exact ⟨ad, A2, c2, A4, c4, h0_, (b.cell (World.block_lt_of_cell? w _ h1_)).trans h1_, (b.cell (World.block_lt_of_cell? w _ h2_)).trans h2_, (b.cell (World.block_lt_of_cell? w _ h3_)).trans h3_, (b.cell (World.block_lt_of_cell? w _ h4_)).trans h4_, (b.cell (World.block_lt_of_cell? w _ h5_)).trans h5_, h6_, h7_, h8_, h9_⟩
theorem at_T140b {w w' : World} {A : Option Addr} {n : Nat} {xs : List S140} (h : Kd.C k140 w A n xs) (b : Below w.heap.size w w') (i : Int) (h0 : 0 ≤ i) (h1 : i < n) : ∃ ad , A = some ad ∧ w'.cell? (ad.add (i.toNat * 3)) = some (.int .i64 (rd_T140 xs i).f0) ∧ w'.cell? ⟨(ad.add (i.toNat * 3)).block, (ad.add (i.toNat * 3)).off + 1, none⟩ = some (.int .i64 (rd_T140 xs i).f1) ∧ w'.cell? ⟨(ad.add (i.toNat * 3)).block, (ad.add (i.toNat * 3)).off + 2, none⟩ = some (.int .i64 (rd_T140 xs i).f2) := by
 obtain ⟨ad, h0_, h1_, h2_, h3_⟩ := at_T140 h i h0 h1
 exact ⟨ad, h0_, (b.cell (World.block_lt_of_cell? w _ h1_)).trans h1_, (b.cell (World.block_lt_of_cell? w _ h2_)).trans h2_, (b.cell (World.block_lt_of_cell? w _ h3_)).trans h3_⟩
theorem at_T69b {w w' : World} {A : Option Addr} {n : Nat} {xs : List S69} (h : Kd.C k69 w A n xs) (b : Below w.heap.size w w') (i : Int) (h0 : 0 ≤ i) (h1 : i < n) : ∃ ad , A = some ad ∧ w'.cell? (ad.add (i.toNat * 3)) = some (.int .i64 (rd_T69 xs i).f0) ∧ w'.cell? ⟨(ad.add (i.toNat * 3)).block, (ad.add (i.toNat * 3)).off + 1, none⟩ = some (.int .i64 (rd_T69 xs i).f1) ∧ w'.cell? ⟨(ad.add (i.toNat * 3)).block, (ad.add (i.toNat * 3)).off + 2, none⟩ = some (.int .i64 (rd_T69 xs i).f2) := by
 obtain ⟨ad, h0_, h1_, h2_, h3_⟩ := at_T69 h i h0 h1
 exact ⟨ad, h0_, (b.cell (World.block_lt_of_cell? w _ h1_)).trans h1_, (b.cell (World.block_lt_of_cell? w _ h2_)).trans h2_, (b.cell (World.block_lt_of_cell? w _ h3_)).trans h3_⟩
theorem at_T172b {w w' : World} {A : Option Addr} {n : Nat} {xs : List S172} (h : Kd.C k172 w A n xs) (b : Below w.heap.size w w') (i : Int) (h0 : 0 ≤ i) (h1 : i < n) : ∃ ad , A = some ad ∧ w'.cell? (ad.add (i.toNat * 2)) = some (.int .i64 (rd_T172 xs i).f0) ∧ w'.cell? ⟨(ad.add (i.toNat * 2)).block, (ad.add (i.toNat * 2)).off + 1, none⟩ = some (.int .i64 (rd_T172 xs i).f1) := by
 obtain ⟨ad, h0_, h1_, h2_⟩ := at_T172 h i h0 h1
 exact ⟨ad, h0_, (b.cell (World.block_lt_of_cell? w _ h1_)).trans h1_, (b.cell (World.block_lt_of_cell? w _ h2_)).trans h2_⟩
theorem at_T174b {w w' : World} {A : Option Addr} {n : Nat} {xs : List S174} (h : Kd.C k174 w A n xs) (b : Below w.heap.size w w') (i : Int) (h0 : 0 ≤ i) (h1 : i < n) : ∃ ad , A = some ad ∧ w'.cell? (ad.add (i.toNat * 4)) = some (.int .i64 (rd_T174 xs i).f0) ∧ w'.cell? ⟨(ad.add (i.toNat * 4)).block, (ad.add (i.toNat * 4)).off + 1, none⟩ = some (.int .i64 (rd_T174 xs i).f1) ∧ w'.cell? ⟨(ad.add (i.toNat * 4)).block, (ad.add (i.toNat * 4)).off + 2, none⟩ = some (.int .i64 (rd_T174 xs i).f2) ∧ w'.cell? ⟨(ad.add (i.toNat * 4)).block, (ad.add (i.toNat * 4)).off + 3, none⟩ = some (.int .i64 (rd_T174 xs i).f3) := by
 obtain ⟨ad, h0_, h1_, h2_, h3_, h4_⟩ := at_T174 h i h0 h1
 exact ⟨ad, h0_, (b.cell (World.block_lt_of_cell? w _ h1_)).trans h1_, (b.cell (World.block_lt_of_cell? w _ h2_)).trans h2_, (b.cell (World.block_lt_of_cell? w _ h3_)).trans h3_, (b.cell (World.block_lt_of_cell? w _ h4_)).trans h4_⟩
theorem at_T97b {w w' : World} {A : Option Addr} {n : Nat} {xs : List S97} (h : Kd.C k97 w A n xs) (b : Below w.heap.size w w') (i : Int) (h0 : 0 ≤ i) (h1 : i < n) : ∃ ad A0 c0 A3 c3 A4 c4, A = some ad ∧ w'.cell? (ad.add (i.toNat * 5)) = some (.slice A0 (rd_T97 xs i).f0.length c0) ∧ w'.cell? ⟨(ad.add (i.toNat * 5)).block, (ad.add (i.toNat * 5)).off + 1, none⟩ = some (.int .i64 (rd_T97 xs i).f1) ∧ w'.cell? ⟨(ad.add (i.toNat * 5)).block, (ad.add (i.toNat * 5)).off + 2, none⟩ = some (.bool (rd_T97 xs i).f2) ∧ w'.cell? ⟨(ad.add (i.toNat * 5)).block, (ad.add (i.toNat * 5)).off + 3, none⟩ = some (.slice A3 (rd_T97 xs i).f3.length c3) ∧ w'.cell? ⟨(ad.add (i.toNat * 5)).block, (ad.add (i.toNat * 5)).off + 4, none⟩ = some (.slice A4 (rd_T97 xs i).f4.length c4) ∧ (rd_T97 xs i).f0.length ≤ c0 ∧ k69.C w A0 (rd_T97 xs i).f0.length (rd_T97 xs i).f0 ∧ (rd_T97 xs i).f3.length ≤ c3 ∧ k172.C w A3 (rd_T97 xs i).f3.length (rd_T97 xs i).f3 ∧ (rd_T97 xs i).f4.length ≤ c4 ∧ k174.C w A4 (rd_T97 xs i).f4.length (rd_T97 xs i).f4 := by
 obtain ⟨ad, A0, c0, A3, c3, A4, c4, h0_, h1_, h2_, h3_, h4_, h5_, h6_, h7_, h8_, h9_, h10_, h11_⟩ := at_T97 h i h0 h1
 exact ⟨ad, A0, c0, A3, c3, A4, c4, h0_, (b.cell (World.block_lt_of_cell? w _ h1_)).trans h1_, (b.cell (World.block_lt_of_cell? w _ h2_)).trans h2_, (b.cell (World.block_lt_of_cell? w _ h3_)).trans h3_, (b.cell (World.block_lt_of_cell? w _ h4_)).trans h4_, (b.cell (World.block_lt_of_cell? w _ h5_)).trans h5_, h6_, h7_, h8_, h9_, h10_, h11_⟩
theorem at_T73b {w w' : World} {A : Option Addr} {n : Nat} {xs : List S73} (h : Kd.C k73 w A n xs) (b : Below w.heap.size w w') (i : Int) (h0 : 0 ≤ i) (h1 : i < n) : ∃ ad A8 c8, A = some ad ∧ w'.cell? (ad.add (i.toNat * 9)) = some (.int .i64 (rd_T73 xs i).f0) ∧ w'.cell? ⟨(ad.add (i.toNat * 9)).block, (ad.add (i.toNat * 9)).off + 1, none⟩ = some (.int .i64 (rd_T73 xs i).f1.f0) ∧ w'.cell? ⟨(ad.add (i.toNat * 9)).block, (ad.add (i.toNat * 9)).off + 2, none⟩ = some (.int .i64 (rd_T73 xs i).f1.f1) ∧ w'.cell? ⟨(ad.add (i.toNat * 9)).block, (ad.add (i.toNat * 9)).off + 3, none⟩ = some (.int .i64 (rd_T73 xs i).f1.f2) ∧ w'.cell? ⟨(ad.add (i.toNat * 9)).block, (ad.add (i.toNat * 9)).off + 4, none⟩ = some (.int .i64 (rd_T73 xs i).f2) ∧ w'.cell? ⟨(ad.add (i.toNat * 9)).block, (ad.add (i.toNat * 9)).off + 5, none⟩ = some (.int .i64 (rd_T73 xs i).f3) ∧ w'.cell? ⟨(ad.add (i.toNat * 9)).block, (ad.add (i.toNat * 9)).off + 6, none⟩ = some (.int .i64 (rd_T73 xs i).f4) ∧ w'.cell? ⟨(ad.add (i.toNat * 9)).block, (ad.add (i.toNat * 9)).off + 7, none⟩ = some (.int .i64 (rd_T73 xs i).f5.f0) ∧ w'.cell? ⟨(ad.add (i.toNat * 9)).block, (ad.add (i.toNat * 9)).off + 8, none⟩ = some (.slice A8 (rd_T73 xs i).f5.f1.length c8) ∧ (rd_T73 xs i).f5.f1.length ≤ c8 ∧ (Kd.int .i64).C w A8 (rd_T73 xs i).f5.f1.length (rd_T73 xs i).f5.f1 := by
 obtain ⟨ad, A8, c8, h0_, h1_, h2_, h3_, h4_, h5_, h6_, h7_, h8_, h9_, h10_, h11_⟩ := at_T73 h i h0 h1
 exact ⟨ad, A8, c8, h0_, (b.cell (World.block_lt_of_cell? w _ h1_)).trans h1_, (b.cell (World.block_lt_of_cell? w _ h2_)).trans h2_, (b.cell (World.block_lt_of_cell? w _ h3_)).trans h3_, (b.cell (World.block_lt_of_cell? w _ h4_)).trans h4_, (b.cell (World.block_lt_of_cell? w _ h5_)).trans h5_, (b.cell (World.block_lt_of_cell? w _ h6_)).trans h6_, (b.cell (World.block_lt_of_cell? w _ h7_)).trans h7_, (b.cell (World.block_lt_of_cell? w _ h8_)).trans h8_, (b.cell (World.block_lt_of_cell? w _ h9_)).trans h9_, h10_, h11_⟩
theorem at_T176c {w w' : World} {A : Option Addr} {n : Nat} {xs : List S176} (h : Aside0 (Kd.C k176 w A n xs)) (b : Aside0 (Below w.heap.size w w')) (i : Int) (h0 : 0 ≤ i := by exact odA) (h1 : i < n := by exact odA) : ∃ ad , A = some ad ∧ (0 ≤ i) = True ∧ (i < n) = True ∧ (w'.cell? (ad.add (i.toNat * 3)) = some (.int .i64 (rd_T176 xs i).f0) ∧ w'.cell? ⟨(ad.add (i.toNat * 3)).block, (ad.add (i.toNat * 3)).off + 1, none⟩ = some (.int .i64 (rd_T176 xs i).f1) ∧ w'.cell? ⟨(ad.add (i.toNat * 3)).block, (ad.add (i.toNat * 3)).off + 2, none⟩ = some (.int .i64 (rd_T176 xs i).f2)) := by
 obtain ⟨ad, q0_, q1_, q2_, q3_⟩ := at_T176b h.out b.out i h0 h1
 exact ⟨ad, q0_, eq_true h0, eq_true h1, ⟨q1_, q2_, q3_⟩⟩
theorem at_T224c {w w' : World} {A : Option Addr} {n : Nat} {xs : List S224} (h : Aside0 (Kd.C k224 w A n xs)) (b : Aside0 (Below w.heap.size w w')) (i : Int) (h0 : 0 ≤ i := by exact odA) (h1 : i < n := by exact odA) : ∃ ad , A = some ad ∧ (0 ≤ i) = True ∧ (i < n) = True ∧ (w'.cell? (ad.add (i.toNat * 3)) = some (.int .i64 (rd_T224 xs i).f0) ∧ w'.cell? ⟨(ad.add (i.toNat * 3)).block, (ad.add (i.toNat * 3)).off + 1, none⟩ = some (.int .i64 (rd_T224 xs i).f1) ∧ w'.cell? ⟨(ad.add (i.toNat * 3)).block, (ad.add (i.toNat * 3)).off + 2, none⟩ = some (.int .i64 (rd_T224 xs i).f2)) := by
 obtain ⟨ad, q0_, q1_, q2_, q3_⟩ := at_T224b h.out b.out i h0 h1
 exact ⟨ad, q0_, eq_true h0, eq_true h1, ⟨q1_, q2_, q3_⟩⟩
theorem at_T155c {w w' : World} {A : Option Addr} {n : Nat} {xs : List S155} (h : Aside0 (Kd.C k155 w A n xs)) (b : Aside0 (Below w.heap.size w w')) (i : Int) (h0 : 0 ≤ i := by exact odA) (h1 : i < n := by exact odA) : ∃ ad A2 c2 A4 c4, A = some ad ∧ (0 ≤ i) = True ∧ (i < n) = True ∧ (w'.cell? (ad.add (i.toNat * 5)) = some (.int .i64 (rd_T155 xs i).f0) ∧ w'.cell? ⟨(ad.add (i.toNat * 5)).block, (ad.add (i.toNat * 5)).off + 1, none⟩ = some (.int .i64 (rd_T155 xs i).f1) ∧ w'.cell? ⟨(ad.add (i.toNat * 5)).block, (ad.add (i.toNat * 5)).off + 2, none⟩ = some (.slice A2 (rd_T155 xs i).f2.length c2) ∧ w'.cell? ⟨(ad.add (i.toNat * 5)).block, (ad.add (i.toNat * 5)).off + 3, none⟩ = some (.int .i64 (rd_T155 xs i).f3.f0) ∧ w'.cell? ⟨(ad.add (i.toNat * 5)).block, (ad.add (i.toNat * 5)).off + 4, none⟩ = some (.slice A4 (rd_T155 xs i).f3.f1.length c4)) ∧ Aside0 ((rd_T155 xs i).f2.length ≤ c2) ∧ Aside0 (k224.C w A2 (rd_T155 xs i).f2.length (rd_T155 xs i).f2) ∧ Aside0 ((rd_T155 xs i).f3.f1.length ≤ c4) ∧ Aside0 ((Kd.int .i64).C w A4 (rd_T155 xs i).f3.f1.length (rd_T155 xs i).f3.f1) := by
 obtain ⟨ad, A2, c2, A4, c4, q0_, q1_, q2_, q3_, q4_, q5_, q6_, q7_, q8_, q9_⟩ := at_T155b h.out b.out i h0 h1
 exact ⟨ad, A2, c2, A4, c4, q0_, eq_true h0, eq_true h1, ⟨q1_, q2_, q3_, q4_, q5_⟩, ⟨q6_⟩, ⟨q7_⟩, ⟨q8_⟩, ⟨q9_⟩⟩
theorem at_T116c {w w' : World} {A : Option Addr} {n : Nat} {xs : List S116} (h : Aside0 (Kd.C k116 w A n xs)) (b : Aside0 (Below w.heap.size w w')) (i : Int) (h0 : 0 ≤ i := by exact odA) (h1 : i < n := by exact odA) : ∃ ad , A = some ad ∧ (0 ≤ i) = True ∧ (i < n) = True ∧ (w'.cell? (ad.add (i.toNat * 3)) = some (.int .i64 (rd_T116 xs i).f0) ∧ w'.cell? ⟨(ad.add (i.toNat * 3)).block, (ad.add (i.toNat * 3)).off + 1, none⟩ = some (.int .i64 (rd_T116 xs i).f1) ∧ w'.cell? ⟨(ad.add (i.toNat * 3)).block, (ad.add (i.toNat * 3)).off + 2, none⟩ = some (.int .i64 (rd_T116 xs i).f2)) := by
 obtain ⟨ad, q0_, q1_, q2_, q3_⟩ := at_T116b h.out b.out i h0 h1
 exact ⟨ad, q0_, eq_true h0, eq_true h1, ⟨q1_, q2_, q3_⟩⟩
theorem at_T204c {w w' : World} {A : Option Addr} {n : Nat} {xs : List S204} (h : Aside0 (Kd.C k204 w A n xs)) (b : Aside0 (Below w.heap.size w w')) (i : Int) (h0 : 0 ≤ i := by exact odA) (h1 : i < n := by exact odA) : ∃ ad , A = some ad ∧ (0 ≤ i) = True ∧ (i < n) = True ∧ (w'.cell? (ad.add (i.toNat * 2)) = some (.int .i64 (rd_T204 xs i).f0) ∧ w'.cell? ⟨(ad.add (i.toNat * 2)).block, (ad.add (i.toNat * 2)).off + 1, none⟩ = some (.int .i64 (rd_T204 xs i).f1)) := by
 obtain ⟨ad, q0_, q1_, q2_⟩ := at_T204b h.out b.out i h0 h1
 exact ⟨ad, q0_, eq_true h0, eq_true h1, ⟨q1_, q2_⟩⟩
theorem at_T206c {w w' : World} {A : Option Addr} {n : Nat} {xs : List S206} (h : Aside0 (Kd.C k206 w A n xs)) (b : Aside0 (Below w.heap.size w w')) (i : Int) (h0 : 0 ≤ i := by exact odA) (h1 : i < n := by exact odA) : ∃ ad , A = some ad ∧ (0 ≤ i) = True ∧ (i < n) = True ∧ (w'.cell? (ad.add (i.toNat * 4)) = some (.int .i64 (rd_T206 xs i).f0) ∧ w'.cell? ⟨(ad.add (i.toNat * 4)).block, (ad.add (i.toNat * 4)).off + 1, none⟩ = some (.int .i64 (rd_T206 xs i).f1) ∧ w'.cell? ⟨(ad.add (i.toNat * 4)).block, (ad.add (i.toNat * 4)).off + 2, none⟩ = some (.int .i64 (rd_T206 xs i).f2) ∧ w'.cell? ⟨(ad.add (i.toNat * 4)).block, (ad.add (i.toNat * 4)).off + 3, none⟩ = some (.int .i64 (rd_T206 xs i).f3)) := by
 obtain ⟨ad, q0_, q1_, q2_, q3_, q4_⟩ := at_T206b h.out b.out i h0 h1
 exact ⟨ad, q0_, eq_true h0, eq_true h1, ⟨q1_, q2_, q3_, q4_⟩⟩
theorem at_T114c {w w' : World} {A : Option Addr} {n : Nat} {xs : List S114} (h : Aside0 (Kd.C k114 w A n xs)) (b : Aside0 (Below w.heap.size w w')) (i : Int) (h0 : 0 ≤ i := by exact odA) (h1 : i < n := by exact odA) : ∃ ad A0 c0 A3 c3 A4 c4, A = some ad ∧ (0 ≤ i) = True ∧ (i < n) = True ∧ (w'.cell? (ad.add (i.toNat * 5)) = some (.slice A0 (rd_T114 xs i).f0.length c0) ∧ w'.cell? ⟨(ad.add (i.toNat * 5)).block, (ad.add (i.toNat * 5)).off + 1, none⟩ = some (.int .i64 (rd_T114 xs i).f1) ∧ w'.cell? ⟨(ad.add (i.toNat * 5)).block, (ad.add (i.toNat * 5)).off + 2, none⟩ = some (.bool (rd_T114 xs i).f2) ∧ w'.cell? ⟨(ad.add (i.toNat * 5)).block, (ad.add (i.toNat * 5)).off + 3, none⟩ = some (.slice A3 (rd_T114 xs i).f3.length c3) ∧ w'.cell? ⟨(ad.add (i.toNat * 5)).block, (ad.add (i.toNat * 5)).off + 4, none⟩ = some (.slice A4 (rd_T114 xs i).f4.length c4)) ∧ Aside0 ((rd_T114 xs i).f0.length ≤ c0) ∧ Aside0 (k116.C w A0 (rd_T114 xs i).f0.length (rd_T114 xs i).f0) ∧ Aside0 ((rd_T114 xs i).f3.length ≤ c3) ∧ Aside0 (k204.C w A3 (rd_T114 xs i).f3.length (rd_T114 xs i).f3) ∧ Aside0 ((rd_T114 xs i).f4.length ≤ c4) ∧ Aside0 (k206.C w A4 (rd_T114 xs i).f4.length (rd_T114 xs i).f4) := by
 obtain ⟨ad, A0, c0, A3, c3, A4, c4, q0_, q1_, q2_, q3_, q4_, q5_, q6_, q7_, q8_, q9_, q10_, q11_⟩ := at_T114b h.out b.out i h0 h1
 exact ⟨ad, A0, c0, A3, c3, A4, c4, q0_, eq_true h0, eq_true h1, ⟨q1_, q2_, q3_, q4_, q5_⟩, ⟨q6_⟩, ⟨q7_⟩, ⟨q8_⟩, ⟨q9_⟩, ⟨q10_⟩, ⟨q11_⟩⟩
theorem at_T119c {w w' : World} {A : Option Addr} {n : Nat} {xs : List S119} (h : Aside0 (Kd.C k119 w A n xs)) (b : Aside0 (Below w.heap.size w w')) (i : Int) (h0 : 0 ≤ i := by exact odA) (h1 : i < n := by exact odA) : ∃ ad A8 c8, A = some ad ∧ (0 ≤ i) = True ∧ (i < n) = True ∧ (w'.cell? (ad.add (i.toNat * 9)) = some (.int .i64 (rd_T119 xs i).f0) ∧ w'.cell? ⟨(ad.add (i.toNat * 9)).block, (ad.add (i.toNat * 9)).off + 1, none⟩ = some (.int .i64 (rd_T119 xs i).f1.f0) ∧ w'.cell? ⟨(ad.add (i.toNat * 9)).block, (ad.add (i.toNat * 9)).off + 2, none⟩ = some (.int .i64 (rd_T119 xs i).f1.f1) ∧ w'.cell? ⟨(ad.add (i.toNat * 9)).block, (ad.add (i.toNat * 9)).off + 3, none⟩ = some (.int .i64 (rd_T119 xs i).f1.f2) ∧ w'.cell? ⟨(ad.add (i.toNat * 9)).block, (ad.add (i.toNat * 9)).off + 4, none⟩ = some (.int .i64 (rd_T119 xs i).f2) ∧ w'.cell? ⟨(ad.add (i.toNat * 9)).block, (ad.add (i.toNat * 9)).off + 5, none⟩ = some (.int .i64 (rd_T119 xs i).f3) ∧ w'.cell? ⟨(ad.add (i.toNat * 9)).block, (ad.add (i.toNat * 9)).off + 6, none⟩ = some (.int .i64 (rd_T119 xs i).f4) ∧ w'.cell? ⟨(ad.add (i.toNat * 9)).block, (ad.add (i.toNat * 9)).off + 7, none⟩ = some (.int .i64 (rd_T119 xs i).f5.f0) ∧ w'.cell? ⟨(ad.add (i.toNat * 9)).block, (ad.add (i.toNat * 9)).off + 8, none⟩ = some (.slice A8 (rd_T119 xs i).f5.f1.length c8)) ∧ Aside0 ((rd_T119 xs i).f5.f1.length ≤ c8) ∧ Aside0 ((Kd.int .i64).C w A8 (rd_T119 xs i).f5.f1.length (rd_T119 xs i).f5.f1) := by
 obtain ⟨ad, A8, c8, q0_, q1_, q2_, q3_, q4_, q5_, q6_, q7_, q8_, q9_, q10_, q11_⟩ := at_T119b h.out b.out i h0 h1
 exact ⟨ad, A8, c8, q0_, eq_true h0, eq_true h1, ⟨q1_, q2_, q3_, q4_, q5_, q6_, q7_, q8_, q9_⟩, ⟨q10_⟩, ⟨q11_⟩⟩
theorem at_T165c {w w' : World} {A : Option Addr} {n : Nat} {xs : List S165} (h : Aside0 (Kd.C k165 w A n xs)) (b : Aside0 (Below w.heap.size w w')) (i : Int) (h0 : 0 ≤ i := by exact odA) (h1 : i < n := by exact odA) : ∃ ad , A = some ad ∧ (0 ≤ i) = True ∧ (i < n) = True ∧ (w'.cell? (ad.add (i.toNat * 3)) = some (.int .i64 (rd_T165 xs i).f0) ∧ w'.cell? ⟨(ad.add (i.toNat * 3)).block, (ad.add (i.toNat * 3)).off + 1, none⟩ = some (.int .i64 (rd_T165 xs i).f1) ∧ w'.cell? ⟨(ad.add (i.toNat * 3)).block, (ad.add (i.toNat * 3)).off + 2, none⟩ = some (.int .i64 (rd_T165 xs i).f2)) := by
 obtain ⟨ad, q0_, q1_, q2_, q3_⟩ := at_T165b h.out b.out i h0 h1
 exact ⟨ad, q0_, eq_true h0, eq_true h1, ⟨q1_, q2_, q3_⟩⟩
theorem at_T162c {w w' : World} {A : Option Addr} {n : Nat} {xs : List S162} (h : Aside0 (Kd.C k162 w A n xs)) (b : Aside0 (Below w.heap.size w w')) (i : Int) (h0 : 0 ≤ i := by exact odA) (h1 : i < n := by exact odA) : ∃ ad A2 c2 A4 c4, A = some ad ∧ (0 ≤ i) = True ∧ (i < n) = True ∧ (w'.cell? (ad.add (i.toNat * 5)) = some (.int .i64 (rd_T162 xs i).f0) ∧ w'.cell? ⟨(ad.add (i.toNat * 5)).block, (ad.add (i.toNat * 5)).off + 1, none⟩ = some (.int .i64 (rd_T162 xs i).f1) ∧ w'.cell? ⟨(ad.add (i.toNat * 5)).block, (ad.add (i.toNat * 5)).off + 2, none⟩ = some (.slice A2 (rd_T162 xs i).f2.length c2) ∧ w'.cell? ⟨(ad.add (i.toNat * 5)).block, (ad.add (i.toNat * 5)).off + 3, none⟩ = some (.int .i64 (rd_T162 xs i).f3.f0) ∧ w'.cell? ⟨(ad.add (i.toNat * 5)).block, (ad.add (i.toNat * 5)).off + 4, none⟩ = some (.slice A4 (rd_T162 xs i).f3.f1.length c4)) ∧ Aside0 ((rd_T162 xs i).f2.length ≤ c2) ∧ Aside0 (k165.C w A2 (rd_T162 xs i).f2.length (rd_T162 xs i).f2) ∧ Aside0 ((rd_T162 xs i).f3.f1.length ≤ c4) ∧ Aside0 ((Kd.int .i64).C w A4 (rd_T162 xs i).f3.f1.length (rd_T162 xs i).f3.f1) := by
 obtain ⟨ad, A2, c2, A4, c4, q0_, q1_, q2_, q3_, q4_, q5_, q6_, q7_, q8_, q9_⟩ := at_T162b h.out b.out i h0 h1
 exact ⟨ad, A2, c2, A4, c4, q0_, eq_true h0, eq_true h1, ⟨q1_, q2_, q3_, q4_, q5_⟩, ⟨q6_⟩, ⟨q7_⟩, ⟨q8_⟩, ⟨q9_⟩⟩
theorem at_T140c {w w' : World} {A : Option Addr} {n : Nat} {xs : List S140} (h : Aside0 (Kd.C k140 w A n xs)) (b : Aside0 (Below w.heap.size w w')) (i : Int) (h0 : 0 ≤ i := by exact odA) (h1 : i < n := by exact odA) : ∃ ad , A = some ad ∧ (0 ≤ i) = True ∧ (i < n) = True ∧ (w'.cell? (ad.add (i.toNat * 3)) = some (.int .i64 (rd_T140 xs i).f0) ∧ w'.cell? ⟨(ad.add (i.toNat * 3)).block, (ad.add (i.toNat * 3)).off + 1, none⟩ = some (.int .i64 (rd_T140 xs i).f1) ∧ w'.cell? ⟨(ad.add (i.toNat * 3)).block, (ad.add (i.toNat * 3)).off + 2, none⟩ = some (.int .i64 (rd_T140 xs i).f2)) := by
 obtain ⟨ad, q0_, q1_, q2_, q3_⟩ := at_T140b h.out b.out i h0 h1
 exact ⟨ad, q0_, eq_true h0, eq_true h1, ⟨q1_, q2_, q3_⟩⟩
theorem at_T69c {w w' : World} {A : Option Addr} {n : Nat} {xs : List S69} (h : Aside0 (Kd.C k69 w A n xs)) (b : Aside0 (Below w.heap.size w w')) (i : Int) (h0 : 0 ≤ i := by exact odA) (h1 : i < n := by exact odA) : ∃ ad , A = some ad ∧ (0 ≤ i) = True ∧ (i < n) = True ∧ (w'.cell? (ad.add (i.toNat * 3)) = some (.int .i64 (rd_T69 xs i).f0) ∧ w'.cell? ⟨(ad.add (i.toNat * 3)).block, (ad.add (i.toNat * 3)).off + 1, none⟩ = some (.int .i64 (rd_T69 xs i).f1) ∧ w'.cell? ⟨(ad.add (i.toNat * 3)).block, (ad.add (i.toNat * 3)).off + 2, none⟩ = some (.int .i64 (rd_T69 xs i).f2)) := by
 obtain ⟨ad, q0_, q1_, q2_, q3_⟩ := at_T69b h.out b.out i h0 h1
 exact ⟨ad, q0_, eq_true h0, eq_true h1, ⟨q1_, q2_, q3_⟩⟩
theorem at_T172c {w w' : World} {A : Option Addr} {n : Nat} {xs : List S172} (h : Aside0 (Kd.C k172 w A n xs)) (b : Aside0 (Below w.heap.size w w')) (i : Int) (h0 : 0 ≤ i := by exact odA) (h1 : i < n := by exact odA) : ∃ ad , A = some ad ∧ (0 ≤ i) = True ∧ (i < n) = True ∧ (w'.cell? (ad.add (i.toNat * 2)) = some (.int .i64 (rd_T172 xs i).f0) ∧ w'.cell? ⟨(ad.add (i.toNat * 2)).block, (ad.add (i.toNat * 2)).off + 1, none⟩ = some (.int .i64 (rd_T172 xs i).f1)) := by
 obtain ⟨ad, q0_, q1_, q2_⟩ := at_T172b h.out b.out i h0 h1
 exact ⟨ad, q0_, eq_true h0, eq_true h1, ⟨q1_, q2_⟩⟩
theorem at_T174c {w w' : World} {A : Option Addr} {n : Nat} {xs : List S174} (h : Aside0 (Kd.C k174 w A n xs)) (b : Aside0 (Below w.heap.size w w')) (i : Int) (h0 : 0 ≤ i := by exact odA) (h1 : i < n := by exact odA) : ∃ ad , A = some ad ∧ (0 ≤ i) = True ∧ (i < n) = True ∧ (w'.cell? (ad.add (i.toNat * 4)) = some (.int .i64 (rd_T174 xs i).f0) ∧ w'.cell? ⟨(ad.add (i.toNat * 4)).block, (ad.add (i.toNat * 4)).off + 1, none⟩ = some (.int .i64 (rd_T174 xs i).f1) ∧ w'.cell? ⟨(ad.add (i.toNat * 4)).block, (ad.add (i.toNat * 4)).off + 2, none⟩ = some (.int .i64 (rd_T174 xs i).f2) ∧ w'.cell? ⟨(ad.add (i.toNat * 4)).block, (ad.add (i.toNat * 4)).off + 3, none⟩ = some (.int .i64 (rd_T174 xs i).f3)) := by
 obtain ⟨ad, q0_, q1_, q2_, q3_, q4_⟩ := at_T174b h.out b.out i h0 h1
 exact ⟨ad, q0_, eq_true h0, eq_true h1, ⟨q1_, q2_, q3_, q4_⟩⟩
theorem at_T97c {w w' : World} {A : Option Addr} {n : Nat} {xs : List S97} (h : Aside0 (Kd.C k97 w A n xs)) (b : Aside0 (Below w.heap.size w w')) (i : Int) (h0 : 0 ≤ i := by exact odA) (h1 : i < n := by exact odA) : ∃ ad A0 c0 A3 c3 A4 c4, A = some ad ∧ (0 ≤ i) = True ∧ (i < n) = True ∧ (w'.cell? (ad.add (i.toNat * 5)) = some (.slice A0 (rd_T97 xs i).f0.length c0) ∧ w'.cell? ⟨(ad.add (i.toNat * 5)).block, (ad.add (i.toNat * 5)).off + 1, none⟩ = some (.int .i64 (rd_T97 xs i).f1) ∧ w'.cell? ⟨(ad.add (i.toNat * 5)).block, (ad.add (i.toNat * 5)).off + 2, none⟩ = some (.bool (rd_T97 xs i).f2) ∧ w'.cell? ⟨(ad.add (i.toNat * 5)).block, (ad.add (i.toNat * 5)).off + 3, none⟩ = some (.slice A3 (rd_T97 xs i).f3.length c3) ∧ w'.cell? ⟨(ad.add (i.toNat * 5)).block, (ad.add (i.toNat * 5)).off + 4, none⟩ = some (.slice A4 (rd_T97 xs i).f4.length c4)) ∧ Aside0 ((rd_T97 xs i).f0.length ≤ c0) ∧ Aside0 (k69.C w A0 (rd_T97 xs i).f0.length (rd_T97 xs i).f0) ∧ Aside0 ((rd_T97 xs i).f3.length ≤ c3) ∧ Aside0 (k172.C w A3 (rd_T97 xs i).f3.length (rd_T97 xs i).f3) ∧ Aside0 ((rd_T97 xs i).f4.length ≤ c4) ∧ Aside0 (k174.C w A4 (rd_T97 xs i).f4.length (rd_T97 xs i).f4) := by
 obtain ⟨ad, A0, c0, A3, c3, A4, c4, q0_, q1_, q2_, q3_, q4_, q5_, q6_, q7_, q8_, q9_, q10_, q11_⟩ := at_T97b h.out b.out i h0 h1
 exact ⟨ad, A0, c0, A3, c3, A4, c4, q0_, eq_true h0, eq_true h1, ⟨q1_, q2_, q3_, q4_, q5_⟩, ⟨q6_⟩, ⟨q7_⟩, ⟨q8_⟩, ⟨q9_⟩, ⟨q10_⟩, ⟨q11_⟩⟩
theorem at_T73c {w w' : World} {A : Option Addr} {n : Nat} {xs : List S73} (h : Aside0 (Kd.C k73 w A n xs)) (b : Aside0 (Below w.heap.size w w')) (i : Int) (h0 : 0 ≤ i := by exact odA) (h1 : i < n := by exact odA) : ∃ ad A8 c8, A = some ad ∧ (0 ≤ i) = True ∧ (i < n) = True ∧ (w'.cell? (ad.add (i.toNat * 9)) = some (.int .i64 (rd_T73 xs i).f0) ∧ w'.cell? ⟨(ad.add (i.toNat * 9)).block, (ad.add (i.toNat * 9)).off + 1, none⟩ = some (.int .i64 (rd_T73 xs i).f1.f0) ∧ w'.cell? ⟨(ad.add (i.toNat * 9)).block, (ad.add (i.toNat * 9)).off + 2, none⟩ = some (.int .i64 (rd_T73 xs i).f1.f1) ∧ w'.cell? ⟨(ad.add (i.toNat * 9)).block, (ad.add (i.toNat * 9)).off + 3, none⟩ = some (.int .i64 (rd_T73 xs i).f1.f2) ∧ w'.cell? ⟨(ad.add (i.toNat * 9)).block, (ad.add (i.toNat * 9)).off + 4, none⟩ = some (.int .i64 (rd_T73 xs i).f2) ∧ w'.cell? ⟨(ad.add (i.toNat * 9)).block, (ad.add (i.toNat * 9)).off + 5, none⟩ = some (.int .i64 (rd_T73 xs i).f3) ∧ w'.cell? ⟨(ad.add (i.toNat * 9)).block, (ad.add (i.toNat * 9)).off + 6, none⟩ = some (.int .i64 (rd_T73 xs i).f4) ∧ w'.cell? ⟨(ad.add (i.toNat * 9)).block, (ad.add (i.toNat * 9)).off + 7, none⟩ = some (.int .i64 (rd_T73 xs i).f5.f0) ∧ w'.cell? ⟨(ad.add (i.toNat * 9)).block, (ad.add (i.toNat * 9)).off + 8, none⟩ = some (.slice A8 (rd_T73 xs i).f5.f1.length c8)) ∧ Aside0 ((rd_T73 xs i).f5.f1.length ≤ c8) ∧ Aside0 ((Kd.int .i64).C w A8 (rd_T73 xs i).f5.f1.length (rd_T73 xs i).f5.f1) := by
 obtain ⟨ad, A8, c8, q0_, q1_, q2_, q3_, q4_, q5_, q6_, q7_, q8_, q9_, q10_, q11_⟩ := at_T73b h.out b.out i h0 h1
 exact ⟨ad, A8, c8, q0_, eq_true h0, eq_true h1, ⟨q1_, q2_, q3_, q4_, q5_, q6_, q7_, q8_, q9_⟩, ⟨q10_⟩, ⟨q11_⟩⟩
end Go.Proofs.YtmljebgideecjaaGreat.P2
namespace Go.Proofs.YtmljebgideecjaaGreat.P2
open Go.Proofs.YtmljebgideecjaaGreatZ Go.RowKit Go.Proofs.YtmljebgideecjaaGreatW.PrintWords Go.Proofs.YtmljebgideecjaaGreatW.PrintLast Go.Proofs.YtmljebgideecjaaGreatW.PrintMore
attribute [local go_sem] max2_int min2_int max_two min_two max_three min_three max_four min_four   -- for this text's walks alone
def laws_szIntS.f (l0 : List Int) (a1 : Int) : Option (Int) := if (wrap64 (a1 - (l0.length : Int))) < 0 then (some (-1)) else (some (wrap64 (a1 - (l0.length : Int))))
theorem laws_szIntS.calls (A0 : Option Addr) (c0 : Nat) (l0 : List Int) (a1 : Int) (r : Int) (w : World) (hr0 : Kd.C (Kd.int .i64) w A0 l0.length l0) (hc0 : l0.length ≤ c0) (h : laws_szIntS.f l0 a1 = some r) :
  Calls Tryz.prog 41 #[.slice A0 l0.length c0, .int .i64 a1] w fun e w' => e = .returned (.int .i64 r) ∧ Drawn0 w w' := by
 have HR0 := aM hr0
 have HC0 := aM hc0
 clear hr0 hc0
 have H := h
 unfold laws_szIntS.f at H
 clear h
 go_enter Tryz.func41, Tryz.ntmps41
 revert H; refine iP (fun c3b0 H => ?_) (fun c3b0 H => ?_)
 ·obtain rfl := sI H
  go_wp2
  go_ret
  exact ⟨by first | rfl | (simp; done) | (simp [*]; done), dX⟩
 obtain rfl := sI H
 go_wp2
 go_ret
 exact ⟨by first | rfl | (simp; done) | (simp [*]; done), dX⟩
def laws_szRows.f (l0_0 : List Int) (a0_1 : Int) (a1 : Int) : Option (Int) := (laws_szIntS.f l0_0 a1).bind fun t102 => (if t102 < 0 then (some (-1)) else (some t102))
theorem laws_szRows.calls (A0_0 : Option Addr) (c0_0 : Nat) (l0_0 : List Int) (a0_1 : Int) (a1 : Int) (r : Int) (w : World) (hr0_0 : Kd.C (Kd.int .i64) w A0_0 l0_0.length l0_0) (hc0_0 : l0_0.length ≤ c0_0) (h : laws_szRows.f l0_0 a0_1 a1 = some r) :
  Calls Tryz.prog 17 #[.agg #[.slice A0_0 l0_0.length c0_0, .int .i64 a0_1], .int .i64 a1] w fun e w' => e = .returned (.int .i64 r) ∧ Below w.heap.size w w' := by
 have hu30 := Tryz.underlying30
 have HR0_0 := aM hr0_0
 have HC0_0 := aM hc0_0
 clear hr0_0 hc0_0
 have HB := aM (Below.refl w.heap.size w)
 have H := h
 unfold laws_szRows.f at H
 clear h
 replace H := bE H; obtain ⟨t102, A3, H⟩ := H
 go_enter Tryz.func17, Tryz.ntmps17
 go_wp2_with (first | (refine boxE 2 #[.slice A0_0 l0_0.length c0_0, .int .i64 a0_1] 30 ?_; intro gbz1 hg wz1 hbox hb; have BKz1 := aM (hbox); have GWz1 := aG hg HB; have GEz1 := aG hg HB; replace HB := aS HB hb; clear hb hbox hg; have hczz1 := cZ2 BKz1.out) | (refine gD 41 8 Tryz.func41 (laws_szIntS.calls _ _ _ _ _ _ (cC HR0_0.out HB.out) HC0_0.out A3.out) ?_; intro nd; refine Stop.out ?_))
 refine ⟨?_⟩
 revert H; refine iP (fun c4b0 H => ?_) (fun c4b0 H => ?_)
 ·obtain rfl := sI H
  exact fS
 exact fR
def laws_szWordS.f (l0 : List (S176)) (a1 : Int) : Option (Int) := if (wrap64 (a1 - (l0.length : Int))) < 0 then (some (-1)) else (some (wrap64 (a1 - (l0.length : Int))))
theorem laws_szWordS.calls (A0 : Option Addr) (c0 : Nat) (l0 : List (S176)) (a1 : Int) (r : Int) (w : World) (hr0 : Kd.C k176 w A0 l0.length l0) (hc0 : l0.length ≤ c0) (h : laws_szWordS.f l0 a1 = some r) :
  Calls Tryz.prog 88 #[.slice A0 l0.length c0, .int .i64 a1] w fun e w' => e = .returned (.int .i64 r) ∧ Drawn0 w w' := by
 have HR0 := aM hr0
 have HC0 := aM hc0
 clear hr0 hc0
 have H := h
 unfold laws_szWordS.f at H
 clear h
 go_enter Tryz.func88, Tryz.ntmps88
 revert H; refine iP (fun c3b0 H => ?_) (fun c3b0 H => ?_)
 ·obtain rfl := sI H
  go_wp2
  go_ret
  exact ⟨by first | rfl | (simp; done) | (simp [*]; done), dX⟩
 obtain rfl := sI H
 go_wp2
 go_ret
 exact ⟨by first | rfl | (simp; done) | (simp [*]; done), dX⟩
def laws_szRes.f (a0_0 : Int) (l0_1 : List Int) (a1 : Int) : Option (Int) := (laws_szIntS.f l0_1 a1).bind fun t102 => (if t102 < 0 then (some (-1)) else (some t102))
theorem laws_szRes.calls (a0_0 : Int) (A0_1 : Option Addr) (c0_1 : Nat) (l0_1 : List Int) (a1 : Int) (r : Int) (w : World) (hr0_1 : Kd.C (Kd.int .i64) w A0_1 l0_1.length l0_1) (hc0_1 : l0_1.length ≤ c0_1) (h : laws_szRes.f a0_0 l0_1 a1 = some r) :
  Calls Tryz.prog 155 #[.agg #[.int .i64 a0_0, .slice A0_1 l0_1.length c0_1], .int .i64 a1] w fun e w' => e = .returned (.int .i64 r) ∧ Below w.heap.size w w' := by
 have hu117 := Tryz.underlying117
 have HR0_1 := aM hr0_1
 have HC0_1 := aM hc0_1
 clear hr0_1 hc0_1
 have HB := aM (Below.refl w.heap.size w)
 have H := h
 unfold laws_szRes.f at H
 clear h
 replace H := bE H; obtain ⟨t102, A3, H⟩ := H
 go_enter Tryz.func155, Tryz.ntmps155
 go_wp2_with (first | (refine boxE 2 #[.int .i64 a0_0, .slice A0_1 l0_1.length c0_1] 117 ?_; intro gbz1 hg wz1 hbox hb; have BKz1 := aM (hbox); have GWz1 := aG hg HB; have GEz1 := aG hg HB; replace HB := aS HB hb; clear hb hbox hg; have hczz1 := cZ2 BKz1.out) | (refine gD 41 8 Tryz.func41 (laws_szIntS.calls _ _ _ _ _ _ (cC HR0_1.out HB.out) HC0_1.out A3.out) ?_; intro nd; refine Stop.out ?_))
 refine ⟨?_⟩
 revert H; refine iP (fun c4b0 H => ?_) (fun c4b0 H => ?_)
 ·obtain rfl := sI H
  exact fS
 exact fR
def laws_szEntryS.f (l0 : List (S224)) (a1 : Int) : Option (Int) := if (wrap64 (a1 - (l0.length : Int))) < 0 then (some (-1)) else (some (wrap64 (a1 - (l0.length : Int))))
theorem laws_szEntryS.calls (A0 : Option Addr) (c0 : Nat) (l0 : List (S224)) (a1 : Int) (r : Int) (w : World) (hr0 : Kd.C k224 w A0 l0.length l0) (hc0 : l0.length ≤ c0) (h : laws_szEntryS.f l0 a1 = some r) :
  Calls Tryz.prog 204 #[.slice A0 l0.length c0, .int .i64 a1] w fun e w' => e = .returned (.int .i64 r) ∧ Drawn0 w w' := by
 have HR0 := aM hr0
 have HC0 := aM hc0
 clear hr0 hc0
 have H := h
 unfold laws_szEntryS.f at H
 clear h
 go_enter Tryz.func204, Tryz.ntmps204
 revert H; refine iP (fun c3b0 H => ?_) (fun c3b0 H => ?_)
 ·obtain rfl := sI H
  go_wp2
  go_ret
  exact ⟨by first | rfl | (simp; done) | (simp [*]; done), dX⟩
 obtain rfl := sI H
 go_wp2
 go_ret
 exact ⟨by first | rfl | (simp; done) | (simp [*]; done), dX⟩
def laws_szDesc.f (a0_0 : Int) (a0_1 : Int) (l0_2 : List (S224)) (a0_3 : Int) (l0_4 : List Int) (a1 : Int) : Option (Int) := (laws_szEntryS.f l0_2 a1).bind fun t102 => (if t102 < 0 then (some (-1)) else ((laws_szRes.f a0_3 l0_4 t102).bind fun t103 => (if t103 < 0 then (some (-1)) else (some t103))))
theorem laws_szDesc.calls (a0_0 : Int) (a0_1 : Int) (A0_2 : Option Addr) (c0_2 : Nat) (l0_2 : List (S224)) (a0_3 : Int) (A0_4 : Option Addr) (c0_4 : Nat) (l0_4 : List Int) (a1 : Int) (r : Int) (w : World) (hr0_2 : Kd.C k224 w A0_2 l0_2.length l0_2) (hc0_2 : l0_2.length ≤ c0_2) (hr0_4 : Kd.C (Kd.int .i64) w A0_4 l0_4.length l0_4) (hc0_4 : l0_4.length ≤ c0_4) (h : laws_szDesc.f a0_0 a0_1 l0_2 a0_3 l0_4 a1 = some r) :
  Calls Tryz.prog 152 #[.agg #[.int .i64 a0_0, .int .i64 a0_1, .slice A0_2 l0_2.length c0_2, .int .i64 a0_3, .slice A0_4 l0_4.length c0_4], .int .i64 a1] w fun e w' => e = .returned (.int .i64 r) ∧ Below w.heap.size w w' := by
 have hu155 := Tryz.underlying155
 have hu117 := Tryz.underlying117
 have HR0_2 := aM hr0_2
 have HC0_2 := aM hc0_2
 clear hr0_2 hc0_2
 have HR0_4 := aM hr0_4
 have HC0_4 := aM hc0_4
 clear hr0_4 hc0_4
 have HB := aM (Below.refl w.heap.size w)
 have H := h
 unfold laws_szDesc.f at H
 clear h
 replace H := bE H; obtain ⟨t102, A3, H⟩ := H
 go_enter Tryz.func152, Tryz.ntmps152
 go_wp2_with (first | (refine boxE 2 #[.int .i64 a0_0, .int .i64 a0_1, .slice A0_2 l0_2.length c0_2, .int .i64 a0_3, .slice A0_4 l0_4.length c0_4] 155 ?_; intro gbz1 hg wz1 hbox hb; have BKz1 := aM (hbox); have GWz1 := aG hg HB; have GEz1 := aG hg HB; replace HB := aS HB hb; clear hb hbox hg; have hczz1 := cZ5 BKz1.out) | (refine gD 204 8 Tryz.func204 (laws_szEntryS.calls _ _ _ _ _ _ (cC HR0_2.out HB.out) HC0_2.out A3.out) ?_; intro nd; refine Stop.out ?_))
 refine ⟨?_⟩
 revert H; refine iP (fun c4b0 H => ?_) (fun c4b0 H => ?_)
 ·obtain rfl := sI H
  exact fS
 replace H := bE H; obtain ⟨t103, A7, H⟩ := H
 go_wp2_with (refine gB 155 14 Tryz.func155 (laws_szRes.calls _ _ _ _ _ _ _ (cC HR0_4.out HB.out) HC0_4.out A7.out) ?_; intro wz2 hb; replace BKz1 := aB BKz1 hb; replace HB := aS HB hb; clear hb; refine Stop.out ?_)
 refine ⟨?_⟩
 revert H; refine iP (fun c8b0 H => ?_) (fun c8b0 H => ?_)
 ·obtain rfl := sI H
  exact fS
 exact fR
def laws_szDescS.l0 : Nat → List (S155) → Int → Int → Option (Int)
 | 0, _, _, _ => none
 | k + 1, x0, x1, x5 => if x5 < (x0.length : Int) then (if 0 ≤ x5 then ((laws_szDesc.f ((rd_T155 x0 x5).f0) ((rd_T155 x0 x5).f1) ((rd_T155 x0 x5).f2) ((rd_T155 x0 x5).f3.f0) ((rd_T155 x0 x5).f3.f1) x1).bind fun t102 => (if t102 < 0 then (some (-1)) else (laws_szDescS.l0 k x0 t102 (wrap64 (x5 + 1))))) else (none)) else (some x1)
def laws_szDescS.f (k : Nat) (l0 : List (S155)) (a1 : Int) : Option (Int) := if (wrap64 (a1 - (l0.length : Int))) < 0 then (some (-1)) else (laws_szDescS.l0 k l0 (wrap64 (a1 - (l0.length : Int))) 0)
theorem laws_szDescS.calls (k : Nat) (A0 : Option Addr) (c0 : Nat) (l0 : List (S155)) (a1 : Int) (r : Int) (w : World) (hr0 : Kd.C k155 w A0 l0.length l0) (hc0 : l0.length ≤ c0) (h : laws_szDescS.f k l0 a1 = some r) :
  Calls Tryz.prog 89 #[.slice A0 l0.length c0, .int .i64 a1] w fun e w' => e = .returned (.int .i64 r) ∧ Below w.heap.size w w' := by
 have hu155 := Tryz.underlying155
 have HR0 := aM hr0
 have HC0 := aM hc0
 clear hr0 hc0
 have HB := aM (Below.refl w.heap.size w)
 have H := h
 unfold laws_szDescS.f at H
 clear h
 go_enter Tryz.func89, Tryz.ntmps89
 revert H; refine iP (fun c3b0 H => ?_) (fun c3b0 H => ?_)
 ·obtain rfl := sI H
  exact fS
 have H' := aM H
 clear H
 go_wp2
 go_loopg [1, 5] k (fun kq v1 v5 w' => ∃ (x1_1 : Int) (x5_1 : Int), v1 = .int .i64 x1_1 ∧ v5 = .int .i64 x5_1 ∧ Aside0 (laws_szDescS.l0 kq l0 x1_1 x5_1 = some r) ∧ Aside0 (kq ≤ k) ∧ Aside0 (Below w.heap.size w w'))
 case atStart => exact ⟨(wrap64 (a1 - (l0.length : Int))), (0), rS, rS, H', ⟨Nat.le_refl _⟩, ⟨(hX HB.out)⟩⟩
 case round =>
  clear H'
  try clear c3b0
  obtain ⟨x1_1, x5_1, rfl, rfl, HA, HKy1, HB⟩ := hrel
  cases gk with
  | zero => exact absurd HA.out (by simp [laws_szDescS.l0])
  | succ k1 =>
   have H := HA.out
   clear HA
   simp only [laws_szDescS.l0] at H
   revert H; refine iN (fun c4b0 H => ?_) (fun c4b0 H => ?_)
   ·obtain rfl := sI H
    exact fS
   replace H := ifQ H; obtain ⟨c5b0, H⟩ := H
   replace H := bE H; obtain ⟨t102, A6, H⟩ := H
   obtain ⟨adx1, Ax1, cx1, Ax2, cx2, ex1, px1, qx1, hxx1, HCx1, HRx1, HCx2, HRx2⟩ := at_T155c HR0 HB x5_1
   cases ex1
   go_wp2_with (refine gB 152 23 Tryz.func152 (laws_szDesc.calls _ _ _ _ _ _ _ _ _ _ _ _ (cC HRx1.out HB.out) HCx1.out (cC HRx2.out HB.out) HCx2.out A6.out) ?_; intro wx1 hb; replace HB := aS HB hb; clear hb; refine Stop.out ?_)
   refine ⟨?_⟩
   revert H; refine iP (fun c7b0 H => ?_) (fun c7b0 H => ?_)
   ·obtain rfl := sI H
    exact fS
   have H' := aM H
   clear H
   go_wp2
   go_roundg k1
   case measure => have := HKy1.out; omega
   case rel => exact ⟨(t102), (wrap64 (x5_1 + 1)), rS, rS, H', ⟨by have := HKy1.out; omega⟩, ⟨(hX HB.out)⟩⟩
def laws_szMem.f (k : Nat) (l0_0 : List (S176)) (l0_1 : List (S155)) (a1 : Int) : Option (Int) := (laws_szWordS.f l0_0 a1).bind fun t102 => (if t102 < 0 then (some (-1)) else ((laws_szDescS.f k l0_1 t102).bind fun t103 => (if t103 < 0 then (some (-1)) else (some t103))))
theorem laws_szMem.calls (k : Nat) (A0_0 : Option Addr) (c0_0 : Nat) (l0_0 : List (S176)) (A0_1 : Option Addr) (c0_1 : Nat) (l0_1 : List (S155)) (a1 : Int) (r : Int) (w : World) (hr0_0 : Kd.C k176 w A0_0 l0_0.length l0_0) (hc0_0 : l0_0.length ≤ c0_0) (hr0_1 : Kd.C k155 w A0_1 l0_1.length l0_1) (hc0_1 : l0_1.length ≤ c0_1) (h : laws_szMem.f k l0_0 l0_1 a1 = some r) :
  Calls Tryz.prog 38 #[.agg #[.slice A0_0 l0_0.length c0_0, .slice A0_1 l0_1.length c0_1], .int .i64 a1] w fun e w' => e = .returned (.int .i64 r) ∧ Below w.heap.size w w' := by
 have hu25 := Tryz.underlying25
 have HR0_0 := aM hr0_0
 have HC0_0 := aM hc0_0
 clear hr0_0 hc0_0
 have HR0_1 := aM hr0_1
 have HC0_1 := aM hc0_1
 clear hr0_1 hc0_1
 have HB := aM (Below.refl w.heap.size w)
 have H := h
 unfold laws_szMem.f at H
 clear h
 replace H := bE H; obtain ⟨t102, A3, H⟩ := H
 go_enter Tryz.func38, Tryz.ntmps38
 go_wp2_with (first | (refine boxE 2 #[.slice A0_0 l0_0.length c0_0, .slice A0_1 l0_1.length c0_1] 25 ?_; intro gbz1 hg wz1 hbox hb; have BKz1 := aM (hbox); have GWz1 := aG hg HB; have GEz1 := aG hg HB; replace HB := aS HB hb; clear hb hbox hg; have hczz1 := cZ2 BKz1.out) | (refine gD 88 8 Tryz.func88 (laws_szWordS.calls _ _ _ _ _ _ (cC HR0_0.out HB.out) HC0_0.out A3.out) ?_; intro nd; refine Stop.out ?_))
 refine ⟨?_⟩
 revert H; refine iP (fun c4b0 H => ?_) (fun c4b0 H => ?_)
 ·obtain rfl := sI H
  exact fS
 replace H := bE H; obtain ⟨t103, A7, H⟩ := H
 go_wp2_with (refine gB 89 14 Tryz.func89 (laws_szDescS.calls _ _ _ _ _ _ _ (cC HR0_1.out HB.out) HC0_1.out A7.out) ?_; intro wz2 hb; replace BKz1 := aB BKz1 hb; replace HB := aS HB hb; clear hb; refine Stop.out ?_)
 refine ⟨?_⟩
 revert H; refine iP (fun c8b0 H => ?_) (fun c8b0 H => ?_)
 ·obtain rfl := sI H
  exact fS
 exact fR
def laws_szPairS.f (l0 : List (S204)) (a1 : Int) : Option (Int) := if (wrap64 (a1 - (l0.length : Int))) < 0 then (some (-1)) else (some (wrap64 (a1 - (l0.length : Int))))
theorem laws_szPairS.calls (A0 : Option Addr) (c0 : Nat) (l0 : List (S204)) (a1 : Int) (r : Int) (w : World) (hr0 : Kd.C k204 w A0 l0.length l0) (hc0 : l0.length ≤ c0) (h : laws_szPairS.f l0 a1 = some r) :
  Calls Tryz.prog 153 #[.slice A0 l0.length c0, .int .i64 a1] w fun e w' => e = .returned (.int .i64 r) ∧ Drawn0 w w' := by
 have HR0 := aM hr0
 have HC0 := aM hc0
 clear hr0 hc0
 have H := h
 unfold laws_szPairS.f at H
 clear h
 go_enter Tryz.func153, Tryz.ntmps153
 revert H; refine iP (fun c3b0 H => ?_) (fun c3b0 H => ?_)
 ·obtain rfl := sI H
  go_wp2
  go_ret
  exact ⟨by first | rfl | (simp; done) | (simp [*]; done), dX⟩
 obtain rfl := sI H
 go_wp2
 go_ret
 exact ⟨by first | rfl | (simp; done) | (simp [*]; done), dX⟩
def laws_szHelpS.f (l0 : List (S206)) (a1 : Int) : Option (Int) := if (wrap64 (a1 - (l0.length : Int))) < 0 then (some (-1)) else (some (wrap64 (a1 - (l0.length : Int))))
theorem laws_szHelpS.calls (A0 : Option Addr) (c0 : Nat) (l0 : List (S206)) (a1 : Int) (r : Int) (w : World) (hr0 : Kd.C k206 w A0 l0.length l0) (hc0 : l0.length ≤ c0) (h : laws_szHelpS.f l0 a1 = some r) :
  Calls Tryz.prog 154 #[.slice A0 l0.length c0, .int .i64 a1] w fun e w' => e = .returned (.int .i64 r) ∧ Drawn0 w w' := by
 have HR0 := aM hr0
 have HC0 := aM hc0
 clear hr0 hc0
 have H := h
 unfold laws_szHelpS.f at H
 clear h
 go_enter Tryz.func154, Tryz.ntmps154
 revert H; refine iP (fun c3b0 H => ?_) (fun c3b0 H => ?_)
 ·obtain rfl := sI H
  go_wp2
  go_ret
  exact ⟨by first | rfl | (simp; done) | (simp [*]; done), dX⟩
 obtain rfl := sI H
 go_wp2
 go_ret
 exact ⟨by first | rfl | (simp; done) | (simp [*]; done), dX⟩
def laws_szOpS.f (l0 : List (S116)) (a1 : Int) : Option (Int) := if (wrap64 (a1 - (l0.length : Int))) < 0 then (some (-1)) else (some (wrap64 (a1 - (l0.length : Int))))
theorem laws_szOpS.calls (A0 : Option Addr) (c0 : Nat) (l0 : List (S116)) (a1 : Int) (r : Int) (w : World) (hr0 : Kd.C k116 w A0 l0.length l0) (hc0 : l0.length ≤ c0) (h : laws_szOpS.f l0 a1 = some r) :
  Calls Tryz.prog 62 #[.slice A0 l0.length c0, .int .i64 a1] w fun e w' => e = .returned (.int .i64 r) ∧ Drawn0 w w' := by
 have HR0 := aM hr0
 have HC0 := aM hc0
 clear hr0 hc0
 have H := h
 unfold laws_szOpS.f at H
 clear h
 go_enter Tryz.func62, Tryz.ntmps62
 revert H; refine iP (fun c3b0 H => ?_) (fun c3b0 H => ?_)
 ·obtain rfl := sI H
  go_wp2
  go_ret
  exact ⟨by first | rfl | (simp; done) | (simp [*]; done), dX⟩
 obtain rfl := sI H
 go_wp2
 go_ret
 exact ⟨by first | rfl | (simp; done) | (simp [*]; done), dX⟩
end Go.Proofs.YtmljebgideecjaaGreat.P2
