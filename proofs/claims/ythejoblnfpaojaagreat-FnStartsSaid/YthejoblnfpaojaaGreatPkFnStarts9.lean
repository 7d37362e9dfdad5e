/- A part of the proof of the law FnStarts: texts of this seat, merged (words, printed functions of the program, plain lemmas). Conditions: none of its own. -/
import Derived.Test.YthejoblnfpaojaaGreatPkFnStarts8
set_option linter.unusedSimpArgs false
set_option linter.unusedVariables false
set_option maxHeartbeats 8000000
set_option maxRecDepth 100000
namespace Go.Proofs.YthejoblnfpaojaaGreatZ
open Go.RowKit Go.Proofs.YthejoblnfpaojaaGreatW.PrintWords Go.Proofs.YthejoblnfpaojaaGreatW.PrintLast Go.Proofs.YthejoblnfpaojaaGreatW.PrintMore
section
variable {α : Type} {d : Kd α} {e : Nat} {w0 w : World} {base : Nat} {ok : Nat → Prop} {A : Option Addr} {n c : Nat} {xs : List α}
theorem rD (h : d.R e w0 base ok (.slice A n c) xs) (f : d.C w0 A xs.length xs → d.C w A xs.length xs := by intro h_; repeat (first | exact h_ | (with_reducible refine Kd.C_alloc ?_ _) | (with_reducible refine Kd.C_drewN ?_ _) | (with_reducible refine Kd.C_drew ?_))) : d.C w A xs.length xs := f (Kd.R_reads' h).2.2
theorem rL (h : d.R e w0 base ok (.slice A n c) xs) : n ≤ c := (Kd.R_reads' h).2.1
end
end Go.Proofs.YthejoblnfpaojaaGreatZ
namespace Go.Proofs.YthejoblnfpaojaaGreat.P
open Go.Proofs.YthejoblnfpaojaaGreatZ Go.RowKit Go.Proofs.YthejoblnfpaojaaGreatW.PrintWords Go.Proofs.YthejoblnfpaojaaGreatW.PrintLast Go.Proofs.YthejoblnfpaojaaGreatW.PrintMore
theorem at_T78c {w w':World} {A:Option Addr} {n:Nat} {xs:List S78} (h:Aside0 (Kd.C k78 w A n xs)) (b:Aside0 (Below w.heap.size w w')) (i:Int) (h0:0≤i:=by exact odA) (h1:i<n:=by exact odA):∃ ad , A=some ad∧(0≤i)=True∧(i<n)=True∧(w'.cell? (ad.add (i.toNat * 3))=some (.int .i64 (rd_T78 xs i).f0)∧w'.cell? ⟨(ad.add (i.toNat * 3)).block,(ad.add (i.toNat * 3)).off+1,none⟩=some (.int .i64 (rd_T78 xs i).f1)∧w'.cell? ⟨(ad.add (i.toNat * 3)).block,(ad.add (i.toNat * 3)).off+2,none⟩=some (.int .i64 (rd_T78 xs i).f2)):=by
 obtain⟨ad,q0_,q1_,q2_,q3_⟩:=at_T78 h.out i h0 h1
 exact⟨ad,q0_,eq_true h0,eq_true h1,⟨bc b.out q1_,bc b.out q2_,bc b.out q3_⟩⟩
theorem at_T63c {w w':World} {A:Option Addr} {n:Nat} {xs:List S63} (h:Aside0 (Kd.C k63 w A n xs)) (b:Aside0 (Below w.heap.size w w')) (i:Int) (h0:0≤i:=by exact odA) (h1:i<n:=by exact odA):∃ ad , A=some ad∧(0≤i)=True∧(i<n)=True∧(w'.cell? (ad.add (i.toNat * 3))=some (.int .i64 (rd_T63 xs i).f0)∧w'.cell? ⟨(ad.add (i.toNat * 3)).block,(ad.add (i.toNat * 3)).off+1,none⟩=some (.int .i64 (rd_T63 xs i).f1)∧w'.cell? ⟨(ad.add (i.toNat * 3)).block,(ad.add (i.toNat * 3)).off+2,none⟩=some (.int .i64 (rd_T63 xs i).f2)):=by
 obtain⟨ad,q0_,q1_,q2_,q3_⟩:=at_T63 h.out i h0 h1
 exact⟨ad,q0_,eq_true h0,eq_true h1,⟨bc b.out q1_,bc b.out q2_,bc b.out q3_⟩⟩
theorem at_T58c {w w':World} {A:Option Addr} {n:Nat} {xs:List S58} (h:Aside0 (Kd.C k58 w A n xs)) (b:Aside0 (Below w.heap.size w w')) (i:Int) (h0:0≤i:=by exact odA) (h1:i<n:=by exact odA):∃ ad A2 c2 A4 c4,A=some ad∧(0≤i)=True∧(i<n)=True∧(w'.cell? (ad.add (i.toNat * 5))=some (.int .i64 (rd_T58 xs i).f0)∧w'.cell? ⟨(ad.add (i.toNat * 5)).block,(ad.add (i.toNat * 5)).off+1,none⟩=some (.int .i64 (rd_T58 xs i).f1)∧w'.cell? ⟨(ad.add (i.toNat * 5)).block,(ad.add (i.toNat * 5)).off+2,none⟩=some (.slice A2 (rd_T58 xs i).f2.length c2)∧w'.cell? ⟨(ad.add (i.toNat * 5)).block,(ad.add (i.toNat * 5)).off+3,none⟩=some (.int .i64 (rd_T58 xs i).f3.f0)∧w'.cell? ⟨(ad.add (i.toNat * 5)).block,(ad.add (i.toNat * 5)).off+4,none⟩=some (.slice A4 (rd_T58 xs i).f3.f1.length c4))∧Aside0 ((rd_T58 xs i).f2.length≤c2)∧Aside0 (k63.C w A2 (rd_T58 xs i).f2.length (rd_T58 xs i).f2)∧Aside0 ((rd_T58 xs i).f3.f1.length≤c4)∧Aside0 ((Kd.int .i64).C w A4 (rd_T58 xs i).f3.f1.length (rd_T58 xs i).f3.f1):=by
 obtain⟨ad,A2,c2,A4,c4,q0_,q1_,q2_,q3_,q4_,q5_,q6_,q7_,q8_,q9_⟩:=at_T58 h.out i h0 h1
 exact⟨ad,A2,c2,A4,c4,q0_,eq_true h0,eq_true h1,⟨bc b.out q1_,bc b.out q2_,bc b.out q3_,bc b.out q4_,bc b.out q5_⟩,⟨q6_⟩,⟨q7_⟩,⟨q8_⟩,⟨q9_⟩⟩
theorem at_T51c {w w':World} {A:Option Addr} {n:Nat} {xs:List S51} (h:Aside0 (Kd.C k51 w A n xs)) (b:Aside0 (Below w.heap.size w w')) (i:Int) (h0:0≤i:=by exact odA) (h1:i<n:=by exact odA):∃ ad , A=some ad∧(0≤i)=True∧(i<n)=True∧(w'.cell? (ad.add (i.toNat * 3))=some (.int .i64 (rd_T51 xs i).f0)∧w'.cell? ⟨(ad.add (i.toNat * 3)).block,(ad.add (i.toNat * 3)).off+1,none⟩=some (.int .i64 (rd_T51 xs i).f1)∧w'.cell? ⟨(ad.add (i.toNat * 3)).block,(ad.add (i.toNat * 3)).off+2,none⟩=some (.int .i64 (rd_T51 xs i).f2)):=by
 obtain⟨ad,q0_,q1_,q2_,q3_⟩:=at_T51 h.out i h0 h1
 exact⟨ad,q0_,eq_true h0,eq_true h1,⟨bc b.out q1_,bc b.out q2_,bc b.out q3_⟩⟩
theorem at_T152c {w w':World} {A:Option Addr} {n:Nat} {xs:List S152} (h:Aside0 (Kd.C k152 w A n xs)) (b:Aside0 (Below w.heap.size w w')) (i:Int) (h0:0≤i:=by exact odA) (h1:i<n:=by exact odA):∃ ad , A=some ad∧(0≤i)=True∧(i<n)=True∧(w'.cell? (ad.add (i.toNat * 2))=some (.int .i64 (rd_T152 xs i).f0)∧w'.cell? ⟨(ad.add (i.toNat * 2)).block,(ad.add (i.toNat * 2)).off+1,none⟩=some (.int .i64 (rd_T152 xs i).f1)):=by
 obtain⟨ad,q0_,q1_,q2_⟩:=at_T152 h.out i h0 h1
 exact⟨ad,q0_,eq_true h0,eq_true h1,⟨bc b.out q1_,bc b.out q2_⟩⟩
theorem at_T154c {w w':World} {A:Option Addr} {n:Nat} {xs:List S154} (h:Aside0 (Kd.C k154 w A n xs)) (b:Aside0 (Below w.heap.size w w')) (i:Int) (h0:0≤i:=by exact odA) (h1:i<n:=by exact odA):∃ ad , A=some ad∧(0≤i)=True∧(i<n)=True∧(w'.cell? (ad.add (i.toNat * 4))=some (.int .i64 (rd_T154 xs i).f0)∧w'.cell? ⟨(ad.add (i.toNat * 4)).block,(ad.add (i.toNat * 4)).off+1,none⟩=some (.int .i64 (rd_T154 xs i).f1)∧w'.cell? ⟨(ad.add (i.toNat * 4)).block,(ad.add (i.toNat * 4)).off+2,none⟩=some (.int .i64 (rd_T154 xs i).f2)∧w'.cell? ⟨(ad.add (i.toNat * 4)).block,(ad.add (i.toNat * 4)).off+3,none⟩=some (.int .i64 (rd_T154 xs i).f3)):=by
 obtain⟨ad,q0_,q1_,q2_,q3_,q4_⟩:=at_T154 h.out i h0 h1
 exact⟨ad,q0_,eq_true h0,eq_true h1,⟨bc b.out q1_,bc b.out q2_,bc b.out q3_,bc b.out q4_⟩⟩
theorem at_T108c {w w':World} {A:Option Addr} {n:Nat} {xs:List S108} (h:Aside0 (Kd.C k108 w A n xs)) (b:Aside0 (Below w.heap.size w w')) (i:Int) (h0:0≤i:=by exact odA) (h1:i<n:=by exact odA):∃ ad A0 c0 A3 c3 A4 c4,A=some ad∧(0≤i)=True∧(i<n)=True∧(w'.cell? (ad.add (i.toNat * 5))=some (.slice A0 (rd_T108 xs i).f0.length c0)∧w'.cell? ⟨(ad.add (i.toNat * 5)).block,(ad.add (i.toNat * 5)).off+1,none⟩=some (.int .i64 (rd_T108 xs i).f1)∧w'.cell? ⟨(ad.add (i.toNat * 5)).block,(ad.add (i.toNat * 5)).off+2,none⟩=some (.bool (rd_T108 xs i).f2)∧w'.cell? ⟨(ad.add (i.toNat * 5)).block,(ad.add (i.toNat * 5)).off+3,none⟩=some (.slice A3 (rd_T108 xs i).f3.length c3)∧w'.cell? ⟨(ad.add (i.toNat * 5)).block,(ad.add (i.toNat * 5)).off+4,none⟩=some (.slice A4 (rd_T108 xs i).f4.length c4))∧Aside0 ((rd_T108 xs i).f0.length≤c0)∧Aside0 (k78.C w A0 (rd_T108 xs i).f0.length (rd_T108 xs i).f0)∧Aside0 ((rd_T108 xs i).f3.length≤c3)∧Aside0 (k152.C w A3 (rd_T108 xs i).f3.length (rd_T108 xs i).f3)∧Aside0 ((rd_T108 xs i).f4.length≤c4)∧Aside0 (k154.C w A4 (rd_T108 xs i).f4.length (rd_T108 xs i).f4):=by
 obtain⟨ad,A0,c0,A3,c3,A4,c4,q0_,q1_,q2_,q3_,q4_,q5_,q6_,q7_,q8_,q9_,q10_,q11_⟩:=at_T108 h.out i h0 h1
 exact⟨ad,A0,c0,A3,c3,A4,c4,q0_,eq_true h0,eq_true h1,⟨bc b.out q1_,bc b.out q2_,bc b.out q3_,bc b.out q4_,bc b.out q5_⟩,⟨q6_⟩,⟨q7_⟩,⟨q8_⟩,⟨q9_⟩,⟨q10_⟩,⟨q11_⟩⟩
theorem at_T80c {w w':World} {A:Option Addr} {n:Nat} {xs:List S80} (h:Aside0 (Kd.C k80 w A n xs)) (b:Aside0 (Below w.heap.size w w')) (i:Int) (h0:0≤i:=by exact odA) (h1:i<n:=by exact odA):∃ ad A8 c8,A=some ad∧(0≤i)=True∧(i<n)=True∧(w'.cell? (ad.add (i.toNat * 9))=some (.int .i64 (rd_T80 xs i).f0)∧w'.cell? ⟨(ad.add (i.toNat * 9)).block,(ad.add (i.toNat * 9)).off+1,none⟩=some (.int .i64 (rd_T80 xs i).f1.f0)∧w'.cell? ⟨(ad.add (i.toNat * 9)).block,(ad.add (i.toNat * 9)).off+2,none⟩=some (.int .i64 (rd_T80 xs i).f1.f1)∧w'.cell? ⟨(ad.add (i.toNat * 9)).block,(ad.add (i.toNat * 9)).off+3,none⟩=some (.int .i64 (rd_T80 xs i).f1.f2)∧w'.cell? ⟨(ad.add (i.toNat * 9)).block,(ad.add (i.toNat * 9)).off+4,none⟩=some (.int .i64 (rd_T80 xs i).f2)∧w'.cell? ⟨(ad.add (i.toNat * 9)).block,(ad.add (i.toNat * 9)).off+5,none⟩=some (.int .i64 (rd_T80 xs i).f3)∧w'.cell? ⟨(ad.add (i.toNat * 9)).block,(ad.add (i.toNat * 9)).off+6,none⟩=some (.int .i64 (rd_T80 xs i).f4)∧w'.cell? ⟨(ad.add (i.toNat * 9)).block,(ad.add (i.toNat * 9)).off+7,none⟩=some (.int .i64 (rd_T80 xs i).f5.f0)∧w'.cell? ⟨(ad.add (i.toNat * 9)).block,(ad.add (i.toNat * 9)).off+8,none⟩=some (.slice A8 (rd_T80 xs i).f5.f1.length c8))∧Aside0 ((rd_T80 xs i).f5.f1.length≤c8)∧Aside0 ((Kd.int .i64).C w A8 (rd_T80 xs i).f5.f1.length (rd_T80 xs i).f5.f1):=by
 obtain⟨ad,A8,c8,q0_,q1_,q2_,q3_,q4_,q5_,q6_,q7_,q8_,q9_,q10_,q11_⟩:=at_T80 h.out i h0 h1
 exact⟨ad,A8,c8,q0_,eq_true h0,eq_true h1,⟨bc b.out q1_,bc b.out q2_,bc b.out q3_,bc b.out q4_,bc b.out q5_,bc b.out q6_,bc b.out q7_,bc b.out q8_,bc b.out q9_⟩,⟨q10_⟩,⟨q11_⟩⟩
end Go.Proofs.YthejoblnfpaojaaGreat.P
namespace Go.Proofs.YthejoblnfpaojaaGreat.P
open Go.RowKit Go.Proofs.YthejoblnfpaojaaGreatW.PrintWords Go.Proofs.YthejoblnfpaojaaGreatW.PrintLast Go.Proofs.YthejoblnfpaojaaGreatW.PrintMore
theorem i146 {p q:Prop} (h:p) (f:p→q:=by intro h_;repeat (first | (with_reducible first | exact h_ | apply IsS146.alloc | apply IsS146.drewN | apply IsS146.drew | apply IsS146.set_1 | apply IsS146.set_2 | refine IsS146.far ?_ (Aside0.out (by assumption)) _) | exact h_)):q:=f h
end Go.Proofs.YthejoblnfpaojaaGreat.P
namespace Go.Proofs.YthejoblnfpaojaaGreat.P
open Go.RowKit Go.Proofs.YthejoblnfpaojaaGreatW.PrintWords Go.Proofs.YthejoblnfpaojaaGreatW.PrintLast Go.Proofs.YthejoblnfpaojaaGreatW.PrintMore
attribute [local go_sem] max2_int min2_int max_two min_two max_three min_three max_four min_four   -- for this text's walks alone
theorem eqA78 (d:Nat) (w:World) (x0 y0:Int) (x1 y1:Int) (x2 y2:Int) :
  (Op.equalIn (d+2) 78 (.agg #[.int .i64 x0,.int .i64 x1,.int .i64 x2]) (.agg #[.int .i64 y0,.int .i64 y1,.int .i64 y2])).run Tryz.prog w = .ok (x0 == y0 && (x1 == y1 && (x2 == y2))) w:=by
 refine eqA_of Tryz.underlying78 (by kernel_rfl) ?_
 refine eqf_cons (by rfl) (by go_simp;rfl) (by go_simp;rfl) (by go_simp) ?_
 refine eqf_cons (by rfl) (by go_simp;rfl) (by go_simp;rfl) (by go_simp) ?_
 exact eqf_last (by rfl) (by go_simp;rfl) (by go_simp;rfl) (by go_simp)
theorem eqA51 (d:Nat) (w:World) (x0 y0:Int) (x1 y1:Int) (x2 y2:Int) :
  (Op.equalIn (d+2) 51 (.agg #[.int .i64 x0,.int .i64 x1,.int .i64 x2]) (.agg #[.int .i64 y0,.int .i64 y1,.int .i64 y2])).run Tryz.prog w = .ok (x0 == y0 && (x1 == y1 && (x2 == y2))) w:=by
 refine eqA_of Tryz.underlying51 (by kernel_rfl) ?_
 refine eqf_cons (by rfl) (by go_simp;rfl) (by go_simp;rfl) (by go_simp) ?_
 refine eqf_cons (by rfl) (by go_simp;rfl) (by go_simp;rfl) (by go_simp) ?_
 exact eqf_last (by rfl) (by go_simp;rfl) (by go_simp;rfl) (by go_simp)
theorem eqA63 (d:Nat) (w:World) (x0 y0:Int) (x1 y1:Int) (x2 y2:Int) :
  (Op.equalIn (d+2) 63 (.agg #[.int .i64 x0,.int .i64 x1,.int .i64 x2]) (.agg #[.int .i64 y0,.int .i64 y1,.int .i64 y2])).run Tryz.prog w = .ok (x0 == y0 && (x1 == y1 && (x2 == y2))) w:=by
 refine eqA_of Tryz.underlying63 (by kernel_rfl) ?_
 refine eqf_cons (by rfl) (by go_simp;rfl) (by go_simp;rfl) (by go_simp) ?_
 refine eqf_cons (by rfl) (by go_simp;rfl) (by go_simp;rfl) (by go_simp) ?_
 exact eqf_last (by rfl) (by go_simp;rfl) (by go_simp;rfl) (by go_simp)
theorem eqA152 (d:Nat) (w:World) (x0 y0:Int) (x1 y1:Int) :
  (Op.equalIn (d+2) 152 (.agg #[.int .i64 x0,.int .i64 x1]) (.agg #[.int .i64 y0,.int .i64 y1])).run Tryz.prog w = .ok (x0 == y0 && (x1 == y1)) w:=by
 refine eqA_of Tryz.underlying152 (by kernel_rfl) ?_
 refine eqf_cons (by rfl) (by go_simp;rfl) (by go_simp;rfl) (by go_simp) ?_
 exact eqf_last (by rfl) (by go_simp;rfl) (by go_simp;rfl) (by go_simp)
theorem eqA154 (d:Nat) (w:World) (x0 y0:Int) (x1 y1:Int) (x2 y2:Int) (x3 y3:Int) :
  (Op.equalIn (d+2) 154 (.agg #[.int .i64 x0,.int .i64 x1,.int .i64 x2,.int .i64 x3]) (.agg #[.int .i64 y0,.int .i64 y1,.int .i64 y2,.int .i64 y3])).run Tryz.prog w = .ok (x0 == y0 && (x1 == y1 && (x2 == y2 && (x3 == y3)))) w:=by
 refine eqA_of Tryz.underlying154 (by kernel_rfl) ?_
 refine eqf_cons (by rfl) (by go_simp;rfl) (by go_simp;rfl) (by go_simp) ?_
 refine eqf_cons (by rfl) (by go_simp;rfl) (by go_simp;rfl) (by go_simp) ?_
 refine eqf_cons (by rfl) (by go_simp;rfl) (by go_simp;rfl) (by go_simp) ?_
 exact eqf_last (by rfl) (by go_simp;rfl) (by go_simp;rfl) (by go_simp)
end Go.Proofs.YthejoblnfpaojaaGreat.P
