/- A part of the proof of the law FnExactMachineNew: texts of this seat, merged (words, printed functions of the program, plain lemmas). Conditions: none of its own. -/
import Derived.Test.YtmljebgideecjaaGreatChecked
import Derived.Test.YtmljebgideecjaaGreatP2kFnExactMachineNew7
set_option linter.unusedSimpArgs false
set_option linter.unusedVariables false
set_option maxHeartbeats 8000000
set_option maxRecDepth 100000
namespace Go.Proofs.YtmljebgideecjaaGreatZ
open Go.RowKit Go.Proofs.YtmljebgideecjaaGreatW.PrintWords Go.Proofs.YtmljebgideecjaaGreatW.PrintLast Go.Proofs.YtmljebgideecjaaGreatW.PrintMore
section
variable {α : Type} {d : Kd α} {e : Nat} {w0 w : World} {base : Nat} {ok : Nat → Prop} {A : Option Addr} {n c : Nat} {xs : List α}
theorem rD (h : d.R e w0 base ok (.slice A n c) xs) (f : d.C w0 A xs.length xs → d.C w A xs.length xs := by intro h_; repeat (first | exact h_ | (with_reducible refine Kd.C_alloc ?_ _) | (with_reducible refine Kd.C_drewN ?_ _) | (with_reducible refine Kd.C_drew ?_))) : d.C w A xs.length xs := f (Kd.R_reads' h).2.2
theorem rL (h : d.R e w0 base ok (.slice A n c) xs) : n ≤ c := (Kd.R_reads' h).2.1
theorem sD (h : Kd.S d e w0 base ok (.slice A n c) xs) (f : d.C w0 A xs.length xs → d.C w A xs.length xs := by intro h_; repeat (first | exact h_ | (with_reducible refine Kd.C_alloc ?_ _) | (with_reducible refine Kd.C_drewN ?_ _) | (with_reducible refine Kd.C_drew ?_))) : d.C w A xs.length xs := f (Kd.S_reads' h).2.2
theorem sL (h : Kd.S d e w0 base ok (.slice A n c) xs) : n ≤ c := (Kd.S_reads' h).2.1
end
end Go.Proofs.YtmljebgideecjaaGreatZ
namespace Go.Proofs.YtmljebgideecjaaGreat.P2
open Go.Proofs.YtmljebgideecjaaGreatZ Go.RowKit Go.Proofs.YtmljebgideecjaaGreatW.PrintWords Go.Proofs.YtmljebgideecjaaGreatW.PrintLast Go.Proofs.YtmljebgideecjaaGreatW.PrintMore
theorem at_T116c {w w':World} {A:Option Addr} {n:Nat} {xs:List S116} (h:Aside0 (Kd.C k116 w A n xs)) (b:Aside0 (Below w.heap.size w w')) (i:Int) (h0:0≤i:=by exact odA) (h1:i<n:=by exact odA):∃ ad , A=some ad∧(0≤i)=True∧(i<n)=True∧(w'.cell? (ad.add (i.toNat * 3))=some (.int .i64 (rd_T116 xs i).f0)∧w'.cell? ⟨(ad.add (i.toNat * 3)).block,(ad.add (i.toNat * 3)).off+1,none⟩=some (.int .i64 (rd_T116 xs i).f1)∧w'.cell? ⟨(ad.add (i.toNat * 3)).block,(ad.add (i.toNat * 3)).off+2,none⟩=some (.int .i64 (rd_T116 xs i).f2)):=by
 obtain⟨ad,q0_,q1_,q2_,q3_⟩:=at_T116 h.out i h0 h1
 exact⟨ad,q0_,eq_true h0,eq_true h1,⟨bc b.out q1_,bc b.out q2_,bc b.out q3_⟩⟩
theorem at_T165c {w w':World} {A:Option Addr} {n:Nat} {xs:List S165} (h:Aside0 (Kd.C k165 w A n xs)) (b:Aside0 (Below w.heap.size w w')) (i:Int) (h0:0≤i:=by exact odA) (h1:i<n:=by exact odA):∃ ad , A=some ad∧(0≤i)=True∧(i<n)=True∧(w'.cell? (ad.add (i.toNat * 3))=some (.int .i64 (rd_T165 xs i).f0)∧w'.cell? ⟨(ad.add (i.toNat * 3)).block,(ad.add (i.toNat * 3)).off+1,none⟩=some (.int .i64 (rd_T165 xs i).f1)∧w'.cell? ⟨(ad.add (i.toNat * 3)).block,(ad.add (i.toNat * 3)).off+2,none⟩=some (.int .i64 (rd_T165 xs i).f2)):=by
 obtain⟨ad,q0_,q1_,q2_,q3_⟩:=at_T165 h.out i h0 h1
 exact⟨ad,q0_,eq_true h0,eq_true h1,⟨bc b.out q1_,bc b.out q2_,bc b.out q3_⟩⟩
theorem at_T162c {w w':World} {A:Option Addr} {n:Nat} {xs:List S162} (h:Aside0 (Kd.C k162 w A n xs)) (b:Aside0 (Below w.heap.size w w')) (i:Int) (h0:0≤i:=by exact odA) (h1:i<n:=by exact odA):∃ ad A2 c2 A4 c4,A=some ad∧(0≤i)=True∧(i<n)=True∧(w'.cell? (ad.add (i.toNat * 5))=some (.int .i64 (rd_T162 xs i).f0)∧w'.cell? ⟨(ad.add (i.toNat * 5)).block,(ad.add (i.toNat * 5)).off+1,none⟩=some (.int .i64 (rd_T162 xs i).f1)∧w'.cell? ⟨(ad.add (i.toNat * 5)).block,(ad.add (i.toNat * 5)).off+2,none⟩=some (.slice A2 (rd_T162 xs i).f2.length c2)∧w'.cell? ⟨(ad.add (i.toNat * 5)).block,(ad.add (i.toNat * 5)).off+3,none⟩=some (.int .i64 (rd_T162 xs i).f3.f0)∧w'.cell? ⟨(ad.add (i.toNat * 5)).block,(ad.add (i.toNat * 5)).off+4,none⟩=some (.slice A4 (rd_T162 xs i).f3.f1.length c4))∧Aside0 ((rd_T162 xs i).f2.length≤c2)∧Aside0 (k165.C w A2 (rd_T162 xs i).f2.length (rd_T162 xs i).f2)∧Aside0 ((rd_T162 xs i).f3.f1.length≤c4)∧Aside0 ((Kd.int .i64).C w A4 (rd_T162 xs i).f3.f1.length (rd_T162 xs i).f3.f1):=by
 obtain⟨ad,A2,c2,A4,c4,q0_,q1_,q2_,q3_,q4_,q5_,q6_,q7_,q8_,q9_⟩:=at_T162 h.out i h0 h1
 exact⟨ad,A2,c2,A4,c4,q0_,eq_true h0,eq_true h1,⟨bc b.out q1_,bc b.out q2_,bc b.out q3_,bc b.out q4_,bc b.out q5_⟩,⟨q6_⟩,⟨q7_⟩,⟨q8_⟩,⟨q9_⟩⟩
theorem at_T140c {w w':World} {A:Option Addr} {n:Nat} {xs:List S140} (h:Aside0 (Kd.C k140 w A n xs)) (b:Aside0 (Below w.heap.size w w')) (i:Int) (h0:0≤i:=by exact odA) (h1:i<n:=by exact odA):∃ ad , A=some ad∧(0≤i)=True∧(i<n)=True∧(w'.cell? (ad.add (i.toNat * 3))=some (.int .i64 (rd_T140 xs i).f0)∧w'.cell? ⟨(ad.add (i.toNat * 3)).block,(ad.add (i.toNat * 3)).off+1,none⟩=some (.int .i64 (rd_T140 xs i).f1)∧w'.cell? ⟨(ad.add (i.toNat * 3)).block,(ad.add (i.toNat * 3)).off+2,none⟩=some (.int .i64 (rd_T140 xs i).f2)):=by
 obtain⟨ad,q0_,q1_,q2_,q3_⟩:=at_T140 h.out i h0 h1
 exact⟨ad,q0_,eq_true h0,eq_true h1,⟨bc b.out q1_,bc b.out q2_,bc b.out q3_⟩⟩
theorem at_T69c {w w':World} {A:Option Addr} {n:Nat} {xs:List S69} (h:Aside0 (Kd.C k69 w A n xs)) (b:Aside0 (Below w.heap.size w w')) (i:Int) (h0:0≤i:=by exact odA) (h1:i<n:=by exact odA):∃ ad , A=some ad∧(0≤i)=True∧(i<n)=True∧(w'.cell? (ad.add (i.toNat * 3))=some (.int .i64 (rd_T69 xs i).f0)∧w'.cell? ⟨(ad.add (i.toNat * 3)).block,(ad.add (i.toNat * 3)).off+1,none⟩=some (.int .i64 (rd_T69 xs i).f1)∧w'.cell? ⟨(ad.add (i.toNat * 3)).block,(ad.add (i.toNat * 3)).off+2,none⟩=some (.int .i64 (rd_T69 xs i).f2)):=by
 obtain⟨ad,q0_,q1_,q2_,q3_⟩:=at_T69 h.out i h0 h1
 exact⟨ad,q0_,eq_true h0,eq_true h1,⟨bc b.out q1_,bc b.out q2_,bc b.out q3_⟩⟩
theorem at_T172c {w w':World} {A:Option Addr} {n:Nat} {xs:List S172} (h:Aside0 (Kd.C k172 w A n xs)) (b:Aside0 (Below w.heap.size w w')) (i:Int) (h0:0≤i:=by exact odA) (h1:i<n:=by exact odA):∃ ad , A=some ad∧(0≤i)=True∧(i<n)=True∧(w'.cell? (ad.add (i.toNat * 2))=some (.int .i64 (rd_T172 xs i).f0)∧w'.cell? ⟨(ad.add (i.toNat * 2)).block,(ad.add (i.toNat * 2)).off+1,none⟩=some (.int .i64 (rd_T172 xs i).f1)):=by
 obtain⟨ad,q0_,q1_,q2_⟩:=at_T172 h.out i h0 h1
 exact⟨ad,q0_,eq_true h0,eq_true h1,⟨bc b.out q1_,bc b.out q2_⟩⟩
theorem at_T174c {w w':World} {A:Option Addr} {n:Nat} {xs:List S174} (h:Aside0 (Kd.C k174 w A n xs)) (b:Aside0 (Below w.heap.size w w')) (i:Int) (h0:0≤i:=by exact odA) (h1:i<n:=by exact odA):∃ ad , A=some ad∧(0≤i)=True∧(i<n)=True∧(w'.cell? (ad.add (i.toNat * 4))=some (.int .i64 (rd_T174 xs i).f0)∧w'.cell? ⟨(ad.add (i.toNat * 4)).block,(ad.add (i.toNat * 4)).off+1,none⟩=some (.int .i64 (rd_T174 xs i).f1)∧w'.cell? ⟨(ad.add (i.toNat * 4)).block,(ad.add (i.toNat * 4)).off+2,none⟩=some (.int .i64 (rd_T174 xs i).f2)∧w'.cell? ⟨(ad.add (i.toNat * 4)).block,(ad.add (i.toNat * 4)).off+3,none⟩=some (.int .i64 (rd_T174 xs i).f3)):=by
 obtain⟨ad,q0_,q1_,q2_,q3_,q4_⟩:=at_T174 h.out i h0 h1
 exact⟨ad,q0_,eq_true h0,eq_true h1,⟨bc b.out q1_,bc b.out q2_,bc b.out q3_,bc b.out q4_⟩⟩
theorem at_T97c {w w':World} {A:Option Addr} {n:Nat} {xs:List S97} (h:Aside0 (Kd.C k97 w A n xs)) (b:Aside0 (Below w.heap.size w w')) (i:Int) (h0:0≤i:=by exact odA) (h1:i<n:=by exact odA):∃ ad A0 c0 A3 c3 A4 c4,A=some ad∧(0≤i)=True∧(i<n)=True∧(w'.cell? (ad.add (i.toNat * 5))=some (.slice A0 (rd_T97 xs i).f0.length c0)∧w'.cell? ⟨(ad.add (i.toNat * 5)).block,(ad.add (i.toNat * 5)).off+1,none⟩=some (.int .i64 (rd_T97 xs i).f1)∧w'.cell? ⟨(ad.add (i.toNat * 5)).block,(ad.add (i.toNat * 5)).off+2,none⟩=some (.bool (rd_T97 xs i).f2)∧w'.cell? ⟨(ad.add (i.toNat * 5)).block,(ad.add (i.toNat * 5)).off+3,none⟩=some (.slice A3 (rd_T97 xs i).f3.length c3)∧w'.cell? ⟨(ad.add (i.toNat * 5)).block,(ad.add (i.toNat * 5)).off+4,none⟩=some (.slice A4 (rd_T97 xs i).f4.length c4))∧Aside0 ((rd_T97 xs i).f0.length≤c0)∧Aside0 (k69.C w A0 (rd_T97 xs i).f0.length (rd_T97 xs i).f0)∧Aside0 ((rd_T97 xs i).f3.length≤c3)∧Aside0 (k172.C w A3 (rd_T97 xs i).f3.length (rd_T97 xs i).f3)∧Aside0 ((rd_T97 xs i).f4.length≤c4)∧Aside0 (k174.C w A4 (rd_T97 xs i).f4.length (rd_T97 xs i).f4):=by
 obtain⟨ad,A0,c0,A3,c3,A4,c4,q0_,q1_,q2_,q3_,q4_,q5_,q6_,q7_,q8_,q9_,q10_,q11_⟩:=at_T97 h.out i h0 h1
 exact⟨ad,A0,c0,A3,c3,A4,c4,q0_,eq_true h0,eq_true h1,⟨bc b.out q1_,bc b.out q2_,bc b.out q3_,bc b.out q4_,bc b.out q5_⟩,⟨q6_⟩,⟨q7_⟩,⟨q8_⟩,⟨q9_⟩,⟨q10_⟩,⟨q11_⟩⟩
theorem at_T73c {w w':World} {A:Option Addr} {n:Nat} {xs:List S73} (h:Aside0 (Kd.C k73 w A n xs)) (b:Aside0 (Below w.heap.size w w')) (i:Int) (h0:0≤i:=by exact odA) (h1:i<n:=by exact odA):∃ ad A8 c8,A=some ad∧(0≤i)=True∧(i<n)=True∧(w'.cell? (ad.add (i.toNat * 9))=some (.int .i64 (rd_T73 xs i).f0)∧w'.cell? ⟨(ad.add (i.toNat * 9)).block,(ad.add (i.toNat * 9)).off+1,none⟩=some (.int .i64 (rd_T73 xs i).f1.f0)∧w'.cell? ⟨(ad.add (i.toNat * 9)).block,(ad.add (i.toNat * 9)).off+2,none⟩=some (.int .i64 (rd_T73 xs i).f1.f1)∧w'.cell? ⟨(ad.add (i.toNat * 9)).block,(ad.add (i.toNat * 9)).off+3,none⟩=some (.int .i64 (rd_T73 xs i).f1.f2)∧w'.cell? ⟨(ad.add (i.toNat * 9)).block,(ad.add (i.toNat * 9)).off+4,none⟩=some (.int .i64 (rd_T73 xs i).f2)∧w'.cell? ⟨(ad.add (i.toNat * 9)).block,(ad.add (i.toNat * 9)).off+5,none⟩=some (.int .i64 (rd_T73 xs i).f3)∧w'.cell? ⟨(ad.add (i.toNat * 9)).block,(ad.add (i.toNat * 9)).off+6,none⟩=some (.int .i64 (rd_T73 xs i).f4)∧w'.cell? ⟨(ad.add (i.toNat * 9)).block,(ad.add (i.toNat * 9)).off+7,none⟩=some (.int .i64 (rd_T73 xs i).f5.f0)∧w'.cell? ⟨(ad.add (i.toNat * 9)).block,(ad.add (i.toNat * 9)).off+8,none⟩=some (.slice A8 (rd_T73 xs i).f5.f1.length c8))∧Aside0 ((rd_T73 xs i).f5.f1.length≤c8)∧Aside0 ((Kd.int .i64).C w A8 (rd_T73 xs i).f5.f1.length (rd_T73 xs i).f5.f1):=by
 obtain⟨ad,A8,c8,q0_,q1_,q2_,q3_,q4_,q5_,q6_,q7_,q8_,q9_,q10_,q11_⟩:=at_T73 h.out i h0 h1
 exact⟨ad,A8,c8,q0_,eq_true h0,eq_true h1,⟨bc b.out q1_,bc b.out q2_,bc b.out q3_,bc b.out q4_,bc b.out q5_,bc b.out q6_,bc b.out q7_,bc b.out q8_,bc b.out q9_⟩,⟨q10_⟩,⟨q11_⟩⟩
end Go.Proofs.YtmljebgideecjaaGreat.P2
namespace Go.Proofs.YtmljebgideecjaaGreat.P2
open Go.RowKit Go.Proofs.YtmljebgideecjaaGreatW.PrintWords Go.Proofs.YtmljebgideecjaaGreatW.PrintLast Go.Proofs.YtmljebgideecjaaGreatW.PrintMore
attribute [local go_sem] max2_int min2_int max_two min_two max_three min_three max_four min_four   -- for this text's walks alone
theorem eqA69 (d:Nat) (w:World) (x0 y0:Int) (x1 y1:Int) (x2 y2:Int) :
  (Op.equalIn (d+2) 69 (.agg #[.int .i64 x0,.int .i64 x1,.int .i64 x2]) (.agg #[.int .i64 y0,.int .i64 y1,.int .i64 y2])).run Tryz.prog w = .ok (x0 == y0 && (x1 == y1 && (x2 == y2))) w:=by
 refine eqA_of Tryz.underlying69 (by kernel_rfl) ?_
 refine eqf_cons (by rfl) (by go_simp;rfl) (by go_simp;rfl) (by go_simp) ?_
 refine eqf_cons (by rfl) (by go_simp;rfl) (by go_simp;rfl) (by go_simp) ?_
 exact eqf_last (by rfl) (by go_simp;rfl) (by go_simp;rfl) (by go_simp)
end Go.Proofs.YtmljebgideecjaaGreat.P2
namespace Go.Proofs.YtmljebgideecjaaGreat.P2
open Go.RowKit Go.Proofs.YtmljebgideecjaaGreatW.PrintWords Go.Proofs.YtmljebgideecjaaGreatW.PrintLast Go.Proofs.YtmljebgideecjaaGreatZ
def wf116 (x:S116):Prop:=(Lit.int .i64 x.f0).wf=true∧(Lit.int .i64 x.f1).wf=true∧(Lit.int .i64 x.f2).wf=true
theorem op116:Opens Tryz.prog 116 k116 wf116:=Opens.struct (fun x:S116=>(x.f0,x.f1,x.f2)) (fun a=>⟨a.1,a.2.1,a.2.2⟩) (fun _=>rfl) Tryz.underlying116 (by kernel_rfl) (OpensF.cons 0 _ rfl rfl (by kernel_rfl) (Opens.int Tryz.underlying3) (OpensF.cons 1 _ rfl rfl (by kernel_rfl) (Opens.int Tryz.underlying3) (OpensF.last 2 _ rfl rfl (by kernel_rfl) (Opens.int Tryz.underlying3))))
def wf30 (x:S30):Prop:=(x.f0.length≤9223372036854775807∧∀ y ∈ x.f0,(Lit.int .i64 y).wf=true)∧(Lit.int .i64 x.f1).wf=true
theorem op30:Opens Tryz.prog 30 k30 wf30:=Opens.struct (fun x:S30=>(x.f0,x.f1)) (fun a=>⟨a.1,a.2⟩) (fun _=>rfl) Tryz.underlying30 (by kernel_rfl) (OpensF.cons 0 _ rfl rfl (by kernel_rfl) (Opens.slice 3 Tryz.underlying28 (by kernel_rfl) (Opens.int Tryz.underlying3)) (OpensF.last 1 _ rfl rfl (by kernel_rfl) (Opens.int Tryz.underlying3)))
end Go.Proofs.YtmljebgideecjaaGreat.P2
