/- A part of the proof of the law FnExactTold: texts of this seat, merged (words, printed functions of the program, plain lemmas). Conditions: none of its own. -/
import Derived.Test.YteamagejhbkhnaaPkFnExactTold14
set_option linter.unusedSimpArgs false
set_option linter.unusedVariables false
set_option maxHeartbeats 8000000
set_option maxRecDepth 100000
namespace Go.Proofs.Yteamagejhbkhnaa.P
open Go.Proofs.YteamagejhbkhnaaZ Go.RowKit Go.Proofs.YteamagejhbkhnaaW.PrintWords Go.Proofs.YteamagejhbkhnaaW.PrintLast Go.Proofs.YteamagejhbkhnaaW.PrintMore
attribute [local go_sem] max2_int min2_int max_two min_two max_three min_three max_four min_four   -- for this text's walks alone
def Xa.l0:Nat→List (S59)→List (S59)→Int→Option (Bool)
 | 0,_,_,_=>none
 | k+1,x0,x1,x5=>if x5<(x0.length:Int) then (if 0≤x5 then (if x5<(x1.length:Int) then ((X2.f k ((rd_T59 x0 x5).f0) ((rd_T59 x0 x5).f1.f0) ((rd_T59 x0 x5).f1.f1) ((rd_T59 x0 x5).f1.f2) ((rd_T59 x0 x5).f2) ((rd_T59 x0 x5).f3) ((rd_T59 x0 x5).f4) ((rd_T59 x0 x5).f5.f0) ((rd_T59 x0 x5).f5.f1) ((rd_T59 x1 x5).f0) ((rd_T59 x1 x5).f1.f0) ((rd_T59 x1 x5).f1.f1) ((rd_T59 x1 x5).f1.f2) ((rd_T59 x1 x5).f2) ((rd_T59 x1 x5).f3) ((rd_T59 x1 x5).f4) ((rd_T59 x1 x5).f5.f0) ((rd_T59 x1 x5).f5.f1)).bind fun t103=>(if t103=true then (Xa.l0 k x0 x1 (wrap64 (x5+1))) else (some false))) else (none)) else (none)) else (some true)
def Xa.f (k:Nat) (l0:List (S59)) (l1:List (S59)):Option (Bool):=if (l0.length:Int)=(l1.length:Int) then (Xa.l0 k l0 l1 0) else (some false)
def Xa.T6:Bool × List (List Nat × List Nat):=(true,[([],[]),([],[]),([0,1],[0,1]),([2],[2]),([],[]),([],[]),([4,5],[4,5]),([6],[6]),([3,7],[3,7]),([8],[8])])
def Xa.B6:List Nat:=[0,0,3,7,0,0,48,112,255,511]
theorem Xa.tab6:rtab .any (opsOf Try.f65 6)=Xa.T6:=by kernel_rfl
theorem Xa.bits6:waitsOk Xa.T6.2 Xa.B6=true:=by kernel_rfl
theorem Xa.calls (k:Nat) (A0:Option Addr) (c0:Nat) (l0:List (S59)) (A1:Option Addr) (c1:Nat) (l1:List (S59)) (r:Bool) (w:World) (hr0:Kd.C k59 w A0 l0.length l0) (hc0:l0.length≤c0) (hr1:Kd.C k59 w A1 l1.length l1) (hc1:l1.length≤c1) (h:Xa.f k l0 l1=some r) :
  Calls Try.prog 65 #[.slice A0 l0.length c0,.slice A1 l1.length c1] w fun e w'=>e = .returned (.bool r)∧Below w.heap.size w w':=by
 have hu59:=Try.underlying59
 have HR0:=Aside0.mk hr0
 have HC0:=Aside0.mk hc0
 clear hr0 hc0
 have HR1:=Aside0.mk hr1
 have HC1:=Aside0.mk hc1
 clear hr1 hc1
 have HB:=Aside0.mk (Below.refl w.heap.size w)
 have H:=h
 unfold Xa.f at H
 clear h
 go_enter Try.func65,Try.ntmps65
 by_cases c3:(l0.length:Int)=(l1.length:Int)
 ·rw[if_pos c3] at H
  obtain⟨c3b0,c3b1⟩:=eqT c3
  have c3b2:(l0.length == l1.length)=true:=by first | simpa using c3 | (simp at c3 ⊢;omega)
  clear c3
  have H':=Aside0.mk H
  clear H
  go_wp2
  go_loopg [5] k (fun kq v5 w'=>∃ (x5_1:Int),v5 = .int .i64 x5_1∧Aside0 (Xa.l0 kq l0 l1 x5_1=some r)∧Aside0 (kq≤k)∧Aside0 (Below w.heap.size w w'))
  case atStart=>exact⟨(0),rS,H',⟨Nat.le_refl _⟩,⟨(hX HB.out)⟩⟩
  case round =>
   clear H'
   try clear c1
   try clear p2
   try clear c3
   try clear c3b0
   try clear c3b1
   try clear c3b2
   obtain⟨x5_1,rfl,HA,HKy1,HB⟩:=hrel
   cases gk with
   | zero=>exact absurd HA.out (by simp[Xa.l0])
   | succ k1 =>
    have H:=HA.out
    clear HA
    simp only[Xa.l0] at H
    by_cases c4:x5_1<(l0.length:Int)
    ·rw[if_pos c4] at H
     have c4b0:=decide_eq_true c4
     clear c4
     replace H:=ifP H;obtain⟨c5,H⟩:=H
     have c5b0:=decide_eq_true c5
     clear c5
     replace H:=ifP H;obtain⟨c6,H⟩:=H
     have c6b0:=decide_eq_true c6
     clear c6
     replace H:=bE H;obtain⟨t103,A7,H⟩:=H
     try go_wp2
     replace HB:=Aside0.mk (below_drew1 HB.out)
     have px1:0≤(x5_1:Int):=of_decide_eq_true (by first | (with_reducible assumption) | assumption)
     have qx1:x5_1<(l0.length:Int):=of_decide_eq_true (by first | (with_reducible assumption) | assumption)
     obtain⟨adx1,Ax1,cx1,ex1,hxx1,hxx2,hxx3,hxx4,hxx5,hxx6,hxx7,hxx8,hxx9,hlx1,hix1⟩:=at_T59 HR0.out x5_1 px1 qx1
     have hwx1:=hxx9
     have hwx2:=hxx8
     have hwx3:=hxx7
     have hwx4:=hxx6
     have hwx5:=hxx5
     have hwx6:=hxx4
     have hwx7:=hxx3
     have hwx8:=hxx2
     have hwx9:=hxx1
     cases ex1
     replace hxx1:=(HB.out.cell (World.block_lt_of_cell? w _ hxx1)).trans hxx1
     replace hxx2:=(HB.out.cell (World.block_lt_of_cell? w _ hxx2)).trans hxx2
     replace hxx3:=(HB.out.cell (World.block_lt_of_cell? w _ hxx3)).trans hxx3
     replace hxx4:=(HB.out.cell (World.block_lt_of_cell? w _ hxx4)).trans hxx4
     replace hxx5:=(HB.out.cell (World.block_lt_of_cell? w _ hxx5)).trans hxx5
     replace hxx6:=(HB.out.cell (World.block_lt_of_cell? w _ hxx6)).trans hxx6
     replace hxx7:=(HB.out.cell (World.block_lt_of_cell? w _ hxx7)).trans hxx7
     replace hxx8:=(HB.out.cell (World.block_lt_of_cell? w _ hxx8)).trans hxx8
     replace hxx9:=(HB.out.cell (World.block_lt_of_cell? w _ hxx9)).trans hxx9
     have HRx1:=Aside0.mk hix1
     have HCx1:=Aside0.mk hlx1
     clear hix1 hlx1
     replace px1:=eq_true px1
     replace qx1:=eq_true qx1
     have px2:0≤(x5_1:Int):=of_decide_eq_true (by first | (with_reducible assumption) | assumption)
     have qx2:x5_1<(l1.length:Int):=of_decide_eq_true (by first | (with_reducible assumption) | assumption)
     obtain⟨adx2,Ax2,cx2,ex2,hxx10,hxx11,hxx12,hxx13,hxx14,hxx15,hxx16,hxx17,hxx18,hlx2,hix2⟩:=at_T59 HR1.out x5_1 px2 qx2
     have hwx10:=hxx18
     have hwx11:=hxx17
     have hwx12:=hxx16
     have hwx13:=hxx15
     have hwx14:=hxx14
     have hwx15:=hxx13
     have hwx16:=hxx12
     have hwx17:=hxx11
     have hwx18:=hxx10
     cases ex2
     replace hxx10:=(HB.out.cell (World.block_lt_of_cell? w _ hxx10)).trans hxx10
     replace hxx11:=(HB.out.cell (World.block_lt_of_cell? w _ hxx11)).trans hxx11
     replace hxx12:=(HB.out.cell (World.block_lt_of_cell? w _ hxx12)).trans hxx12
     replace hxx13:=(HB.out.cell (World.block_lt_of_cell? w _ hxx13)).trans hxx13
     replace hxx14:=(HB.out.cell (World.block_lt_of_cell? w _ hxx14)).trans hxx14
     replace hxx15:=(HB.out.cell (World.block_lt_of_cell? w _ hxx15)).trans hxx15
     replace hxx16:=(HB.out.cell (World.block_lt_of_cell? w _ hxx16)).trans hxx16
     replace hxx17:=(HB.out.cell (World.block_lt_of_cell? w _ hxx17)).trans hxx17
     replace hxx18:=(HB.out.cell (World.block_lt_of_cell? w _ hxx18)).trans hxx18
     have HRx2:=Aside0.mk hix2
     have HCx2:=Aside0.mk hlx2
     clear hix2 hlx2
     replace px2:=eq_true px2
     replace qx2:=eq_true qx2
     refine start_ (n:=10) (S:=fun w'=>w'.cell? (adx1.add ((x5_1).toNat * 9))=some (.int .i64 ((rd_T59 l0 x5_1).f0))∧w'.cell? ⟨(adx1.add ((x5_1).toNat * 9)).block,(adx1.add ((x5_1).toNat * 9)).off+1,none⟩=some (.int .i64 ((rd_T59 l0 x5_1).f1.f0))∧w'.cell? ⟨(adx1.add ((x5_1).toNat * 9)).block,(adx1.add ((x5_1).toNat * 9)).off+2,none⟩=some (.int .i64 ((rd_T59 l0 x5_1).f1.f1))∧w'.cell? ⟨(adx1.add ((x5_1).toNat * 9)).block,(adx1.add ((x5_1).toNat * 9)).off+3,none⟩=some (.int .i64 ((rd_T59 l0 x5_1).f1.f2))∧w'.cell? ⟨(adx1.add ((x5_1).toNat * 9)).block,(adx1.add ((x5_1).toNat * 9)).off+4,none⟩=some (.int .i64 ((rd_T59 l0 x5_1).f2))∧w'.cell? ⟨(adx1.add ((x5_1).toNat * 9)).block,(adx1.add ((x5_1).toNat * 9)).off+5,none⟩=some (.int .i64 ((rd_T59 l0 x5_1).f3))∧w'.cell? ⟨(adx1.add ((x5_1).toNat * 9)).block,(adx1.add ((x5_1).toNat * 9)).off+6,none⟩=some (.int .i64 ((rd_T59 l0 x5_1).f4))∧w'.cell? ⟨(adx1.add ((x5_1).toNat * 9)).block,(adx1.add ((x5_1).toNat * 9)).off+7,none⟩=some (.int .i64 ((rd_T59 l0 x5_1).f5.f0))∧w'.cell? ⟨(adx1.add ((x5_1).toNat * 9)).block,(adx1.add ((x5_1).toNat * 9)).off+8,none⟩=some (.slice Ax1 ((rd_T59 l0 x5_1).f5.f1).length cx1)∧w'.cell? (adx2.add ((x5_1).toNat * 9))=some (.int .i64 ((rd_T59 l1 x5_1).f0))∧w'.cell? ⟨(adx2.add ((x5_1).toNat * 9)).block,(adx2.add ((x5_1).toNat * 9)).off+1,none⟩=some (.int .i64 ((rd_T59 l1 x5_1).f1.f0))∧w'.cell? ⟨(adx2.add ((x5_1).toNat * 9)).block,(adx2.add ((x5_1).toNat * 9)).off+2,none⟩=some (.int .i64 ((rd_T59 l1 x5_1).f1.f1))∧w'.cell? ⟨(adx2.add ((x5_1).toNat * 9)).block,(adx2.add ((x5_1).toNat * 9)).off+3,none⟩=some (.int .i64 ((rd_T59 l1 x5_1).f1.f2))∧w'.cell? ⟨(adx2.add ((x5_1).toNat * 9)).block,(adx2.add ((x5_1).toNat * 9)).off+4,none⟩=some (.int .i64 ((rd_T59 l1 x5_1).f2))∧w'.cell? ⟨(adx2.add ((x5_1).toNat * 9)).block,(adx2.add ((x5_1).toNat * 9)).off+5,none⟩=some (.int .i64 ((rd_T59 l1 x5_1).f3))∧w'.cell? ⟨(adx2.add ((x5_1).toNat * 9)).block,(adx2.add ((x5_1).toNat * 9)).off+6,none⟩=some (.int .i64 ((rd_T59 l1 x5_1).f4))∧w'.cell? ⟨(adx2.add ((x5_1).toNat * 9)).block,(adx2.add ((x5_1).toNat * 9)).off+7,none⟩=some (.int .i64 ((rd_T59 l1 x5_1).f5.f0))∧w'.cell? ⟨(adx2.add ((x5_1).toNat * 9)).block,(adx2.add ((x5_1).toNat * 9)).off+8,none⟩=some (.slice Ax2 ((rd_T59 l1 x5_1).f5.f1).length cx2)) (ds:=[]) (bm 10 0) (by kernel_rfl) rfl (by kernel_rfl) ⟨((HB.out.cell (World.block_lt_of_cell? w _ hwx9)).trans hwx9),((HB.out.cell (World.block_lt_of_cell? w _ hwx8)).trans hwx8),((HB.out.cell (World.block_lt_of_cell? w _ hwx7)).trans hwx7),((HB.out.cell (World.block_lt_of_cell? w _ hwx6)).trans hwx6),((HB.out.cell (World.block_lt_of_cell? w _ hwx5)).trans hwx5),((HB.out.cell (World.block_lt_of_cell? w _ hwx4)).trans hwx4),((HB.out.cell (World.block_lt_of_cell? w _ hwx3)).trans hwx3),((HB.out.cell (World.block_lt_of_cell? w _ hwx2)).trans hwx2),((HB.out.cell (World.block_lt_of_cell? w _ hwx1)).trans hwx1),((HB.out.cell (World.block_lt_of_cell? w _ hwx18)).trans hwx18),((HB.out.cell (World.block_lt_of_cell? w _ hwx17)).trans hwx17),((HB.out.cell (World.block_lt_of_cell? w _ hwx16)).trans hwx16),((HB.out.cell (World.block_lt_of_cell? w _ hwx15)).trans hwx15),((HB.out.cell (World.block_lt_of_cell? w _ hwx14)).trans hwx14),((HB.out.cell (World.block_lt_of_cell? w _ hwx13)).trans hwx13),((HB.out.cell (World.block_lt_of_cell? w _ hwx12)).trans hwx12),((HB.out.cell (World.block_lt_of_cell? w _ hwx11)).trans hwx11),((HB.out.cell (World.block_lt_of_cell? w _ hwx10)).trans hwx10)⟩ (fun hHeld => ?_);refine with_tabW Xa.tab6 Xa.bits6 (fun HT_ HW_ => ?_)
     generalize wr.drew=wx1 at HB HRx1 HRx2 hxx1 hxx2 hxx3 hxx4 hxx5 hxx6 hxx7 hxx8 hxx9 hxx10 hxx11 hxx12 hxx13 hxx14 hxx15 hxx16 hxx17 hxx18 hHeld ⊢
     refine pZ 0 17 (bm 10 1) HT_.out ?_
     refine pZ 1 18 (bm 10 3) HT_.out ?_
     refine pZ 2 19 (bm 10 7) HT_.out ?_
     refine pZ 4 21 (bm 10 23) HT_.out ?_
     refine pZ 5 22 (bm 10 55) HT_.out ?_
     refine pZ 6 23 (bm 10 119) HT_.out ?_
     refine tZ 3 20 (bm 10 127) HT_.out HW_.out hHeld ?_
     refine tZ 7 24 (bm 10 255) HT_.out HW_.out hHeld ?_
     by_cases c8:t103=true
     ·subst c8
      rw[if_pos rfl] at H
      have H':=Aside0.mk H
      clear H
      refine oZ 8 (some 25) (bm 10 511) HT_.out (fun K hK => ?_)
      refine goesN Try.func58 #[.agg #[.int .i64 ((rd_T59 l0 x5_1).f0),.int .i64 ((rd_T59 l0 x5_1).f1.f0),.int .i64 ((rd_T59 l0 x5_1).f1.f1),.int .i64 ((rd_T59 l0 x5_1).f1.f2),.int .i64 ((rd_T59 l0 x5_1).f2),.int .i64 ((rd_T59 l0 x5_1).f3),.int .i64 ((rd_T59 l0 x5_1).f4),.int .i64 ((rd_T59 l0 x5_1).f5.f0),.slice Ax1 ((rd_T59 l0 x5_1).f5.f1).length cx1],.agg #[.int .i64 ((rd_T59 l1 x5_1).f0),.int .i64 ((rd_T59 l1 x5_1).f1.f0),.int .i64 ((rd_T59 l1 x5_1).f1.f1),.int .i64 ((rd_T59 l1 x5_1).f1.f2),.int .i64 ((rd_T59 l1 x5_1).f2),.int .i64 ((rd_T59 l1 x5_1).f3),.int .i64 ((rd_T59 l1 x5_1).f4),.int .i64 ((rd_T59 l1 x5_1).f5.f0),.slice Ax2 ((rd_T59 l1 x5_1).f5.f1).length cx2]] ?_
      with_reducible refine(X2.calls k1 ((rd_T59 l0 x5_1).f0) ((rd_T59 l0 x5_1).f1.f0) ((rd_T59 l0 x5_1).f1.f1) ((rd_T59 l0 x5_1).f1.f2) ((rd_T59 l0 x5_1).f2) ((rd_T59 l0 x5_1).f3) ((rd_T59 l0 x5_1).f4) ((rd_T59 l0 x5_1).f5.f0) _ _ ((rd_T59 l0 x5_1).f5.f1) ((rd_T59 l1 x5_1).f0) ((rd_T59 l1 x5_1).f1.f0) ((rd_T59 l1 x5_1).f1.f1) ((rd_T59 l1 x5_1).f1.f2) ((rd_T59 l1 x5_1).f2) ((rd_T59 l1 x5_1).f3) ((rd_T59 l1 x5_1).f4) ((rd_T59 l1 x5_1).f5.f0) _ _ ((rd_T59 l1 x5_1).f5.f1) true _ ?side1 ?side2 ?side3 ?side4 A7.out).mono ?_
      (case side1=>repeat (first | exact(Kd.C_below HRx1.out HB.out) | (with_reducible refine Kd.C_alloc ?_ _) | (with_reducible refine Kd.C_drewN ?_ _) | (with_reducible refine Kd.C_drew ?_)))
      (case side2=>exact HCx1.out)
      (case side3=>repeat (first | exact(Kd.C_below HRx2.out HB.out) | (with_reducible refine Kd.C_alloc ?_ _) | (with_reducible refine Kd.C_drewN ?_ _) | (with_reducible refine Kd.C_drew ?_)))
      (case side4=>exact HCx2.out)
      rintro e wx2 ⟨rfl,hb⟩
      refine⟨_,rfl,?_⟩
      replace HB:=Aside0.mk (below_step (hX HB.out) hb)
      (try clear hb)
      (try clear hb2)
      (try clear hk)
      (try clear hi)
      refine hK.out _ _ ⟨((HB.out.cell (World.block_lt_of_cell? w _ hwx9)).trans hwx9),((HB.out.cell (World.block_lt_of_cell? w _ hwx8)).trans hwx8),((HB.out.cell (World.block_lt_of_cell? w _ hwx7)).trans hwx7),((HB.out.cell (World.block_lt_of_cell? w _ hwx6)).trans hwx6),((HB.out.cell (World.block_lt_of_cell? w _ hwx5)).trans hwx5),((HB.out.cell (World.block_lt_of_cell? w _ hwx4)).trans hwx4),((HB.out.cell (World.block_lt_of_cell? w _ hwx3)).trans hwx3),((HB.out.cell (World.block_lt_of_cell? w _ hwx2)).trans hwx2),((HB.out.cell (World.block_lt_of_cell? w _ hwx1)).trans hwx1),((HB.out.cell (World.block_lt_of_cell? w _ hwx18)).trans hwx18),((HB.out.cell (World.block_lt_of_cell? w _ hwx17)).trans hwx17),((HB.out.cell (World.block_lt_of_cell? w _ hwx16)).trans hwx16),((HB.out.cell (World.block_lt_of_cell? w _ hwx15)).trans hwx15),((HB.out.cell (World.block_lt_of_cell? w _ hwx14)).trans hwx14),((HB.out.cell (World.block_lt_of_cell? w _ hwx13)).trans hwx13),((HB.out.cell (World.block_lt_of_cell? w _ hwx12)).trans hwx12),((HB.out.cell (World.block_lt_of_cell? w _ hwx11)).trans hwx11),((HB.out.cell (World.block_lt_of_cell? w _ hwx10)).trans hwx10)⟩ (fun hHeld => ?_)
      clear hK K
      refine nZ 25 ?_
      refine pZ 9 26 (bm 10 1023) HT_.out ?_
      refine done_ (done_of HT_.out (by kernel_rfl)) ?_
      try go_wp2
      go_roundg k1
      case measure=>have:=HKy1.out;omega
      case rel=>exact⟨(wrap64 (x5_1+1)),rS,H',⟨by have:=HKy1.out;omega⟩,⟨(hX HB.out)⟩⟩
     ·replace c8:=Bool.eq_false_iff.mpr c8
      subst c8
      rw[if_neg nft] at H
      obtain rfl:=Option.some.inj H
      refine oZ 8 (some 25) (bm 10 511) HT_.out (fun K hK => ?_)
      refine goesN Try.func58 #[.agg #[.int .i64 ((rd_T59 l0 x5_1).f0),.int .i64 ((rd_T59 l0 x5_1).f1.f0),.int .i64 ((rd_T59 l0 x5_1).f1.f1),.int .i64 ((rd_T59 l0 x5_1).f1.f2),.int .i64 ((rd_T59 l0 x5_1).f2),.int .i64 ((rd_T59 l0 x5_1).f3),.int .i64 ((rd_T59 l0 x5_1).f4),.int .i64 ((rd_T59 l0 x5_1).f5.f0),.slice Ax1 ((rd_T59 l0 x5_1).f5.f1).length cx1],.agg #[.int .i64 ((rd_T59 l1 x5_1).f0),.int .i64 ((rd_T59 l1 x5_1).f1.f0),.int .i64 ((rd_T59 l1 x5_1).f1.f1),.int .i64 ((rd_T59 l1 x5_1).f1.f2),.int .i64 ((rd_T59 l1 x5_1).f2),.int .i64 ((rd_T59 l1 x5_1).f3),.int .i64 ((rd_T59 l1 x5_1).f4),.int .i64 ((rd_T59 l1 x5_1).f5.f0),.slice Ax2 ((rd_T59 l1 x5_1).f5.f1).length cx2]] ?_
      with_reducible refine(X2.calls k1 ((rd_T59 l0 x5_1).f0) ((rd_T59 l0 x5_1).f1.f0) ((rd_T59 l0 x5_1).f1.f1) ((rd_T59 l0 x5_1).f1.f2) ((rd_T59 l0 x5_1).f2) ((rd_T59 l0 x5_1).f3) ((rd_T59 l0 x5_1).f4) ((rd_T59 l0 x5_1).f5.f0) _ _ ((rd_T59 l0 x5_1).f5.f1) ((rd_T59 l1 x5_1).f0) ((rd_T59 l1 x5_1).f1.f0) ((rd_T59 l1 x5_1).f1.f1) ((rd_T59 l1 x5_1).f1.f2) ((rd_T59 l1 x5_1).f2) ((rd_T59 l1 x5_1).f3) ((rd_T59 l1 x5_1).f4) ((rd_T59 l1 x5_1).f5.f0) _ _ ((rd_T59 l1 x5_1).f5.f1) false _ ?side1 ?side2 ?side3 ?side4 A7.out).mono ?_
      (case side1=>repeat (first | exact(Kd.C_below HRx1.out HB.out) | (with_reducible refine Kd.C_alloc ?_ _) | (with_reducible refine Kd.C_drewN ?_ _) | (with_reducible refine Kd.C_drew ?_)))
      (case side2=>exact HCx1.out)
      (case side3=>repeat (first | exact(Kd.C_below HRx2.out HB.out) | (with_reducible refine Kd.C_alloc ?_ _) | (with_reducible refine Kd.C_drewN ?_ _) | (with_reducible refine Kd.C_drew ?_)))
      (case side4=>exact HCx2.out)
      rintro e wx2 ⟨rfl,hb⟩
      refine⟨_,rfl,?_⟩
      replace HB:=Aside0.mk (below_step (hX HB.out) hb)
      (try clear hb)
      (try clear hb2)
      (try clear hk)
      (try clear hi)
      refine hK.out _ _ ⟨((HB.out.cell (World.block_lt_of_cell? w _ hwx9)).trans hwx9),((HB.out.cell (World.block_lt_of_cell? w _ hwx8)).trans hwx8),((HB.out.cell (World.block_lt_of_cell? w _ hwx7)).trans hwx7),((HB.out.cell (World.block_lt_of_cell? w _ hwx6)).trans hwx6),((HB.out.cell (World.block_lt_of_cell? w _ hwx5)).trans hwx5),((HB.out.cell (World.block_lt_of_cell? w _ hwx4)).trans hwx4),((HB.out.cell (World.block_lt_of_cell? w _ hwx3)).trans hwx3),((HB.out.cell (World.block_lt_of_cell? w _ hwx2)).trans hwx2),((HB.out.cell (World.block_lt_of_cell? w _ hwx1)).trans hwx1),((HB.out.cell (World.block_lt_of_cell? w _ hwx18)).trans hwx18),((HB.out.cell (World.block_lt_of_cell? w _ hwx17)).trans hwx17),((HB.out.cell (World.block_lt_of_cell? w _ hwx16)).trans hwx16),((HB.out.cell (World.block_lt_of_cell? w _ hwx15)).trans hwx15),((HB.out.cell (World.block_lt_of_cell? w _ hwx14)).trans hwx14),((HB.out.cell (World.block_lt_of_cell? w _ hwx13)).trans hwx13),((HB.out.cell (World.block_lt_of_cell? w _ hwx12)).trans hwx12),((HB.out.cell (World.block_lt_of_cell? w _ hwx11)).trans hwx11),((HB.out.cell (World.block_lt_of_cell? w _ hwx10)).trans hwx10)⟩ (fun hHeld => ?_)
      clear hK K
      refine nZ 25 ?_
      refine pZ 9 26 (bm 10 1023) HT_.out ?_
      refine done_ (done_of HT_.out (by kernel_rfl)) ?_
      try go_wp2
      go_ret
      exact⟨rE,(hX HB.out)⟩
    ·rw[if_neg c4] at H
     have c4b0:=decide_eq_false c4
     clear c4
     obtain rfl:=Option.some.inj H
     go_wp2
     go_ret
     exact⟨rE,(hX HB.out)⟩
 ·rw[if_neg c3] at H
  obtain⟨c3b0,c3b1⟩:=eqF c3
  have c3b2:(l0.length == l1.length)=false:=by first | simpa using c3 | (simp at c3 ⊢;omega)
  obtain rfl:=Option.some.inj H
  go_wp2
  go_ret
  exact⟨rE,(hX HB.out)⟩
def XD.l0:Nat→List (S165)→Int→Int→Option (Int)
 | 0,_,_,_=>none
 | k+1,x0,x1,x5=>if x5<(x0.length:Int) then (if 0≤x5 then ((Xag.f ((rd_T165 x0 x5).f0) ((rd_T165 x0 x5).f1) ((rd_T165 x0 x5).f2) ((rd_T165 x0 x5).f3.f0) ((rd_T165 x0 x5).f3.f1) x1).bind fun t102=>(if t102<0 then (some (-1)) else (XD.l0 k x0 t102 (wrap64 (x5+1))))) else (none)) else (some x1)
def XD.f (k:Nat) (l0:List (S165)) (a1:Int):Option (Int):=if (wrap64 (a1 - (l0.length:Int)))<0 then (some (-1)) else (XD.l0 k l0 (wrap64 (a1 - (l0.length:Int))) 0)
theorem XD.calls (k:Nat) (A0:Option Addr) (c0:Nat) (l0:List (S165)) (a1:Int) (r:Int) (w:World) (hr0:Kd.C k165 w A0 l0.length l0) (hc0:l0.length≤c0) (h:XD.f k l0 a1=some r) :
  Calls Try.prog 139 #[.slice A0 l0.length c0,.int .i64 a1] w fun e w'=>e = .returned (.int .i64 r)∧Below w.heap.size w w':=by
 have hu165:=Try.underlying165
 have HR0:=Aside0.mk hr0
 have HC0:=Aside0.mk hc0
 clear hr0 hc0
 have HB:=Aside0.mk (Below.refl w.heap.size w)
 have H:=h
 unfold XD.f at H
 clear h
 go_enter Try.func139,Try.ntmps139
 by_cases c3:(wrap64 (a1 - (l0.length:Int)))<0
 ·rw[if_pos c3] at H
  have c3b0:=decide_eq_true c3
  clear c3
  obtain rfl:=Option.some.inj H
  go_wp2
  go_ret
  exact⟨rE,(hX HB.out)⟩
 ·rw[if_neg c3] at H
  have c3b0:=decide_eq_false c3
  clear c3
  have H':=Aside0.mk H
  clear H
  go_wp2
  go_loopg [1,5] k (fun kq v1 v5 w'=>∃ (x1_1:Int) (x5_1:Int),v1 = .int .i64 x1_1∧v5 = .int .i64 x5_1∧Aside0 (XD.l0 kq l0 x1_1 x5_1=some r)∧Aside0 (kq≤k)∧Aside0 (Below w.heap.size w w'))
  case atStart=>exact⟨(wrap64 (a1 - (l0.length:Int))),(0),rS,rS,H',⟨Nat.le_refl _⟩,⟨(hX HB.out)⟩⟩
  case round =>
   clear H'
   try clear c1
   try clear p2
   try clear c3
   try clear c3b0
   obtain⟨x1_1,x5_1,rfl,rfl,HA,HKy1,HB⟩:=hrel
   cases gk with
   | zero=>exact absurd HA.out (by simp[XD.l0])
   | succ k1 =>
    have H:=HA.out
    clear HA
    simp only[XD.l0] at H
    by_cases c4:x5_1<(l0.length:Int)
    ·rw[if_pos c4] at H
     have c4b0:=decide_eq_true c4
     clear c4
     replace H:=ifP H;obtain⟨c5,H⟩:=H
     have c5b0:=decide_eq_true c5
     clear c5
     replace H:=bE H;obtain⟨t102,A6,H⟩:=H
     have px1:0≤(x5_1:Int):=of_decide_eq_true (by first | (with_reducible assumption) | assumption)
     have qx1:x5_1<(l0.length:Int):=of_decide_eq_true (by first | (with_reducible assumption) | assumption)
     obtain⟨adx1,Ax1,cx1,Ax2,cx2,ex1,hxx1,hxx2,hxx3,hxx4,hxx5,hlx1,hix1,hlx2,hix2⟩:=at_T165 HR0.out x5_1 px1 qx1
     cases ex1
     replace hxx1:=(HB.out.cell (World.block_lt_of_cell? w _ hxx1)).trans hxx1
     replace hxx2:=(HB.out.cell (World.block_lt_of_cell? w _ hxx2)).trans hxx2
     replace hxx3:=(HB.out.cell (World.block_lt_of_cell? w _ hxx3)).trans hxx3
     replace hxx4:=(HB.out.cell (World.block_lt_of_cell? w _ hxx4)).trans hxx4
     replace hxx5:=(HB.out.cell (World.block_lt_of_cell? w _ hxx5)).trans hxx5
     have HRx1:=Aside0.mk hix1
     have HCx1:=Aside0.mk hlx1
     clear hix1 hlx1
     have HRx2:=Aside0.mk hix2
     have HCx2:=Aside0.mk hlx2
     clear hix2 hlx2
     replace px1:=eq_true px1
     replace qx1:=eq_true qx1
     go_wp2_with (first | (refine goesM 160 23 Try.func160 #[.agg #[.int .i64 ((rd_T165 l0 x5_1).f0),.int .i64 ((rd_T165 l0 x5_1).f1),.slice Ax1 ((rd_T165 l0 x5_1).f2).length cx1,.int .i64 ((rd_T165 l0 x5_1).f3.f0),.slice Ax2 ((rd_T165 l0 x5_1).f3.f1).length cx2],.int .i64 x1_1] ?_;refine(Xag.calls ((rd_T165 l0 x5_1).f0) ((rd_T165 l0 x5_1).f1) _ _ ((rd_T165 l0 x5_1).f2) ((rd_T165 l0 x5_1).f3.f0) _ _ ((rd_T165 l0 x5_1).f3.f1) x1_1 t102 _ (cC HRx1.out HB.out) HCx1.out (cC HRx2.out HB.out) HCx2.out A6.out).mono ?_;rintro e wx1 ⟨rfl,hb⟩;refine⟨_,rfl,?_⟩;replace HB:=Aside0.mk (below_step (hX HB.out) hb);clear hb;refine Stop.out ?_))
     refine⟨?_⟩
     by_cases c7:t102<0
     ·rw[if_pos c7] at H
      have c7b0:=decide_eq_true c7
      clear c7
      obtain rfl:=Option.some.inj H
      go_wp2
      go_ret
      exact⟨rE,(hX HB.out)⟩
     ·rw[if_neg c7] at H
      have c7b0:=decide_eq_false c7
      clear c7
      have H':=Aside0.mk H
      clear H
      go_wp2
      go_roundg k1
      case measure=>have:=HKy1.out;omega
      case rel=>exact⟨(t102),(wrap64 (x5_1+1)),rS,rS,H',⟨by have:=HKy1.out;omega⟩,⟨(hX HB.out)⟩⟩
    ·rw[if_neg c4] at H
     have c4b0:=decide_eq_false c4
     clear c4
     obtain rfl:=Option.some.inj H
     go_wp2
     go_ret
     exact⟨rE,(hX HB.out)⟩
def Xs.l0:Nat→List (S53)→Int→Int→Option (Int)
 | 0,_,_,_=>none
 | k+1,x0,x1,x5=>if x5<(x0.length:Int) then (if 0≤x5 then ((Xah.f ((rd_T53 x0 x5).f0) ((rd_T53 x0 x5).f1.f0) ((rd_T53 x0 x5).f1.f1) ((rd_T53 x0 x5).f1.f2) ((rd_T53 x0 x5).f2) ((rd_T53 x0 x5).f3) ((rd_T53 x0 x5).f4) ((rd_T53 x0 x5).f5.f0) ((rd_T53 x0 x5).f5.f1) x1).bind fun t102=>(if t102<0 then (some (-1)) else (Xs.l0 k x0 t102 (wrap64 (x5+1))))) else (none)) else (some x1)
def Xs.f (k:Nat) (l0:List (S53)) (a1:Int):Option (Int):=if (wrap64 (a1 - (l0.length:Int)))<0 then (some (-1)) else (Xs.l0 k l0 (wrap64 (a1 - (l0.length:Int))) 0)
theorem Xs.calls (k:Nat) (A0:Option Addr) (c0:Nat) (l0:List (S53)) (a1:Int) (r:Int) (w:World) (hr0:Kd.C k53 w A0 l0.length l0) (hc0:l0.length≤c0) (h:Xs.f k l0 a1=some r) :
  Calls Try.prog 60 #[.slice A0 l0.length c0,.int .i64 a1] w fun e w'=>e = .returned (.int .i64 r)∧Below w.heap.size w w':=by
 have hu53:=Try.underlying53
 have HR0:=Aside0.mk hr0
 have HC0:=Aside0.mk hc0
 clear hr0 hc0
 have HB:=Aside0.mk (Below.refl w.heap.size w)
 have H:=h
 unfold Xs.f at H
 clear h
 go_enter Try.func60,Try.ntmps60
 by_cases c3:(wrap64 (a1 - (l0.length:Int)))<0
 ·rw[if_pos c3] at H
  have c3b0:=decide_eq_true c3
  clear c3
  obtain rfl:=Option.some.inj H
  go_wp2
  go_ret
  exact⟨rE,(hX HB.out)⟩
 ·rw[if_neg c3] at H
  have c3b0:=decide_eq_false c3
  clear c3
  have H':=Aside0.mk H
  clear H
  go_wp2
  go_loopg [1,5] k (fun kq v1 v5 w'=>∃ (x1_1:Int) (x5_1:Int),v1 = .int .i64 x1_1∧v5 = .int .i64 x5_1∧Aside0 (Xs.l0 kq l0 x1_1 x5_1=some r)∧Aside0 (kq≤k)∧Aside0 (Below w.heap.size w w'))
  case atStart=>exact⟨(wrap64 (a1 - (l0.length:Int))),(0),rS,rS,H',⟨Nat.le_refl _⟩,⟨(hX HB.out)⟩⟩
  case round =>
   clear H'
   try clear p2
   try clear c3
   try clear c3b0
   obtain⟨x1_1,x5_1,rfl,rfl,HA,HKy1,HB⟩:=hrel
   cases gk with
   | zero=>exact absurd HA.out (by simp[Xs.l0])
   | succ k1 =>
    have H:=HA.out
    clear HA
    simp only[Xs.l0] at H
    by_cases c4:x5_1<(l0.length:Int)
    ·rw[if_pos c4] at H
     have c4b0:=decide_eq_true c4
     clear c4
     replace H:=ifP H;obtain⟨c5,H⟩:=H
     have c5b0:=decide_eq_true c5
     clear c5
     replace H:=bE H;obtain⟨t102,A6,H⟩:=H
     have px1:0≤(x5_1:Int):=of_decide_eq_true (by first | (with_reducible assumption) | assumption)
     have qx1:x5_1<(l0.length:Int):=of_decide_eq_true (by first | (with_reducible assumption) | assumption)
     obtain⟨adx1,Ax1,cx1,ex1,hxx1,hxx2,hxx3,hxx4,hxx5,hxx6,hxx7,hxx8,hxx9,hlx1,hix1⟩:=at_T53 HR0.out x5_1 px1 qx1
     cases ex1
     replace hxx1:=(HB.out.cell (World.block_lt_of_cell? w _ hxx1)).trans hxx1
     replace hxx2:=(HB.out.cell (World.block_lt_of_cell? w _ hxx2)).trans hxx2
     replace hxx3:=(HB.out.cell (World.block_lt_of_cell? w _ hxx3)).trans hxx3
     replace hxx4:=(HB.out.cell (World.block_lt_of_cell? w _ hxx4)).trans hxx4
     replace hxx5:=(HB.out.cell (World.block_lt_of_cell? w _ hxx5)).trans hxx5
     replace hxx6:=(HB.out.cell (World.block_lt_of_cell? w _ hxx6)).trans hxx6
     replace hxx7:=(HB.out.cell (World.block_lt_of_cell? w _ hxx7)).trans hxx7
     replace hxx8:=(HB.out.cell (World.block_lt_of_cell? w _ hxx8)).trans hxx8
     replace hxx9:=(HB.out.cell (World.block_lt_of_cell? w _ hxx9)).trans hxx9
     have HRx1:=Aside0.mk hix1
     have HCx1:=Aside0.mk hlx1
     clear hix1 hlx1
     replace px1:=eq_true px1
     replace qx1:=eq_true qx1
     go_wp2_with (first | (refine goesM 54 23 Try.func54 #[.agg #[.int .i64 ((rd_T53 l0 x5_1).f0),.int .i64 ((rd_T53 l0 x5_1).f1.f0),.int .i64 ((rd_T53 l0 x5_1).f1.f1),.int .i64 ((rd_T53 l0 x5_1).f1.f2),.int .i64 ((rd_T53 l0 x5_1).f2),.int .i64 ((rd_T53 l0 x5_1).f3),.int .i64 ((rd_T53 l0 x5_1).f4),.int .i64 ((rd_T53 l0 x5_1).f5.f0),.slice Ax1 ((rd_T53 l0 x5_1).f5.f1).length cx1],.int .i64 x1_1] ?_;refine(Xah.calls ((rd_T53 l0 x5_1).f0) ((rd_T53 l0 x5_1).f1.f0) ((rd_T53 l0 x5_1).f1.f1) ((rd_T53 l0 x5_1).f1.f2) ((rd_T53 l0 x5_1).f2) ((rd_T53 l0 x5_1).f3) ((rd_T53 l0 x5_1).f4) ((rd_T53 l0 x5_1).f5.f0) _ _ ((rd_T53 l0 x5_1).f5.f1) x1_1 t102 _ (cC HRx1.out HB.out) HCx1.out A6.out).mono ?_;rintro e wx1 ⟨rfl,hb⟩;refine⟨_,rfl,?_⟩;replace HB:=Aside0.mk (below_step (hX HB.out) hb);clear hb;refine Stop.out ?_))
     refine⟨?_⟩
     by_cases c7:t102<0
     ·rw[if_pos c7] at H
      have c7b0:=decide_eq_true c7
      clear c7
      obtain rfl:=Option.some.inj H
      go_wp2
      go_ret
      exact⟨rE,(hX HB.out)⟩
     ·rw[if_neg c7] at H
      have c7b0:=decide_eq_false c7
      clear c7
      have H':=Aside0.mk H
      clear H
      go_wp2
      go_roundg k1
      case measure=>have:=HKy1.out;omega
      case rel=>exact⟨(t102),(wrap64 (x5_1+1)),rS,rS,H',⟨by have:=HKy1.out;omega⟩,⟨(hX HB.out)⟩⟩
    ·rw[if_neg c4] at H
     have c4b0:=decide_eq_false c4
     clear c4
     obtain rfl:=Option.some.inj H
     go_wp2
     go_ret
     exact⟨rE,(hX HB.out)⟩
def XE.l0:Nat→List (S165)→List (S175)→Int→Option ((List (S175)))
 | 0,_,_,_=>none
 | k+1,x0,x3,x4=>if x4<(x0.length:Int) then (if 0≤x4 then ((Xai.f k ((rd_T165 x0 x4).f0) ((rd_T165 x0 x4).f1) ((rd_T165 x0 x4).f2) ((rd_T165 x0 x4).f3.f0) ((rd_T165 x0 x4).f3.f1)).bind fun bt105=>(if x4<(x3.length:Int) then (XE.l0 k x0 (x3.set (x4:Int).toNat (⟨bt105.1,bt105.2.1,bt105.2.2.1,(⟨bt105.2.2.2.1,bt105.2.2.2.2⟩:S57)⟩:S175)) (wrap64 (x4+1))) else (none))) else (none)) else (some x3)
def XE.f (k:Nat) (l0:List (S165)):Option ((List (S175))):=if 0≤(l0.length:Int) then (if ((l0.length:Int):Int).toNat≤3909374676536 then (XE.l0 k l0 (List.replicate ((l0.length:Int):Int).toNat z175) 0) else (none)) else (none)
theorem XE.calls (k:Nat) (A0:Option Addr) (c0:Nat) (l0:List (S165)) (r:List (S175)) (w:World) (hr0:Kd.C k165 w A0 l0.length l0) (hc0:l0.length≤c0) (h:XE.f k l0=some r) :
  Calls Try.prog 142 #[.slice A0 l0.length c0] w fun e w'=>∃ v0_:Value,e = .returned (v0_)∧Kd.S k175 175 w' w.heap.size (fun _=>True) v0_ r∧Below w.heap.size w w':=by
 have hu165:=Try.underlying165
 have hu175:=Try.underlying175
 have HR0:=Aside0.mk hr0
 have HC0:=Aside0.mk hc0
 clear hr0 hc0
 have HB:=Aside0.mk (Below.refl w.heap.size w)
 have H:=h
 unfold XE.f at H
 clear h
 replace H:=ifP H;obtain⟨c2,H⟩:=H
 have c2b0:=eq_true c2
 have c2b1:=decide_eq_true c2
 clear c2
 replace H:=ifP H;obtain⟨c3,H⟩:=H
 have c3b0:=eq_true c3
 have c3b1:=decide_eq_true c3
 clear c3
 obtain⟨y101,hy101⟩:∃ y_:List (S175),y_=(List.replicate ((l0.length:Int):Int).toNat z175):=⟨_,rfl⟩
 replace H:(XE.l0 k l0 y101 0)=some r:=yH H hy101
 have Ny101:=Aside0.mk hy101
 clear hy101
 have H':=Aside0.mk H
 clear H
 go_enter Try.func142,Try.ntmps142
 go_wp2_with (first | ((with_reducible refine gate_dst (N:=7) rfl ?_);refine Kd.S_make k175 _ 175 rfl (N:=7) rfl 82 _ _ rfl (l0.length:Int) rfl rfl Try.underlying82 (.agg #[(.int .i64 0),(.int .i64 0),(.slice none 0 0),(.int .i64 0),(.slice none 0 0)]) 72 info175 rfl (by decide) (by omega) z175 (ok:=fun _=>True) (okp:=fun _=>True) (k175_mkM _ _ _ z175 (Kd.R_nil _ _ _ _ _) (Kd.R_nil _ _ _ _ _)) (fun _ hk=>hk) trivial (of_decide_eq_true (by first | (with_reducible assumption) | assumption)) (Nat.le_trans (Nat.mul_le_mul_right _ (of_decide_eq_true (by first | (with_reducible assumption) | assumption):(l0.length:Int).toNat≤3909374676536)) (by omega)) (Below.refl _ _) (Nat.le_refl _) ?_;intro vz1 wz1 hoz1 hb hg_ hnew_;clear hg_ hnew_;(first | rw[← Ny101.out] at hoz1 | (simp only[Int.reduceToNat] at hoz1;rw[← Ny101.out] at hoz1));have HOz1:=Aside0.mk (Kd.S_lower hoz1 (below_size (hX HB.out)));replace HB:=Aside0.mk (below_step (hX HB.out) hb);clear hb hoz1))
 go_loopg [4] k (fun kq v4 w'=>∃ (x3_1:List (S175)) (x4_1:Int),v4 = .int .i64 x4_1∧Aside0 (XE.l0 kq l0 x3_1 x4_1=some r)∧Aside0 (kq≤k)∧Aside0 (Kd.S k175 175 w' w.heap.size (fun _=>True) vz1 x3_1)∧Aside0 (Below w.heap.size w w'))
 case atStart=>exact⟨(y101),(0),rS,H',⟨Nat.le_refl _⟩,⟨(sX HOz1.out)⟩,⟨(hX HB.out)⟩⟩
 case round =>
  clear H'
  try clear c1
  try clear c2
  try clear c2b0
  try clear c2b1
  try clear p2
  try clear c3
  try clear c3b0
  try clear c3b1
  obtain⟨x3_1,x4_1,rfl,HA,HKy1,HO_y1,HB⟩:=hrel
  cases gk with
  | zero=>exact absurd HA.out (by simp[XE.l0])
  | succ k1 =>
   have H:=HA.out
   clear HA
   simp only[XE.l0] at H
   by_cases c6:x4_1<(l0.length:Int)
   ·rw[if_pos c6] at H
    have c6b0:=decide_eq_true c6
    clear c6
    replace H:=ifP H;obtain⟨c7,H⟩:=H
    have c7b0:=decide_eq_true c7
    clear c7
    replace H:=bE H;obtain⟨⟨t105,t106,t107,t110,t111⟩,A8,H⟩:=H
    try dsimp only at H
    replace H:=ifP H;obtain⟨c9,H⟩:=H
    have c9b0:=decide_eq_true c9
    clear c9
    obtain⟨y114,hy114⟩:∃ y_:List (S175),y_=(x3_1.set (x4_1:Int).toNat (⟨t105,t106,t107,(⟨t110,t111⟩:S57)⟩:S175)):=⟨_,rfl⟩
    replace H:(XE.l0 k1 l0 y114 (wrap64 (x4_1+1)))=some r:=yH H hy114
    have Ny114:=Aside0.mk hy114
    clear hy114
    have H':=Aside0.mk H
    clear H
    have px1:0≤(x4_1:Int):=of_decide_eq_true (by first | (with_reducible assumption) | assumption)
    have qx1:x4_1<(l0.length:Int):=of_decide_eq_true (by first | (with_reducible assumption) | assumption)
    obtain⟨adx1,Ax1,cx1,Ax2,cx2,ex1,hxx1,hxx2,hxx3,hxx4,hxx5,hlx1,hix1,hlx2,hix2⟩:=at_T165 HR0.out x4_1 px1 qx1
    cases ex1
    replace hxx1:=(HB.out.cell (World.block_lt_of_cell? w _ hxx1)).trans hxx1
    replace hxx2:=(HB.out.cell (World.block_lt_of_cell? w _ hxx2)).trans hxx2
    replace hxx3:=(HB.out.cell (World.block_lt_of_cell? w _ hxx3)).trans hxx3
    replace hxx4:=(HB.out.cell (World.block_lt_of_cell? w _ hxx4)).trans hxx4
    replace hxx5:=(HB.out.cell (World.block_lt_of_cell? w _ hxx5)).trans hxx5
    have HRx1:=Aside0.mk hix1
    have HCx1:=Aside0.mk hlx1
    clear hix1 hlx1
    have HRx2:=Aside0.mk hix2
    have HCx2:=Aside0.mk hlx2
    clear hix2 hlx2
    replace px1:=eq_true px1
    replace qx1:=eq_true qx1
    go_wp2_with (first | ((with_reducible refine gate_callee (f:=165) rfl ?_);refine goesM 165 20 Try.func165 #[.agg #[.int .i64 ((rd_T165 l0 x4_1).f0),.int .i64 ((rd_T165 l0 x4_1).f1),.slice Ax1 ((rd_T165 l0 x4_1).f2).length cx1,.int .i64 ((rd_T165 l0 x4_1).f3.f0),.slice Ax2 ((rd_T165 l0 x4_1).f3.f1).length cx2]] ?_;refine(Xai.calls k1 ((rd_T165 l0 x4_1).f0) ((rd_T165 l0 x4_1).f1) _ _ ((rd_T165 l0 x4_1).f2) ((rd_T165 l0 x4_1).f3.f0) _ _ ((rd_T165 l0 x4_1).f3.f1) t105 t106 t107 t110 t111 _ (cC HRx1.out HB.out) HCx1.out (cC HRx2.out HB.out) HCx2.out A8.out).mono ?_;rintro e wx1 ⟨vx1,vx2,rfl,hox1,hox2,hb⟩;refine⟨_,rfl,?_⟩;have HOx1:=Aside0.mk (Kd.R_lower hox1 (below_size (hX HB.out)));have HOx2:=Aside0.mk (Kd.R_lower hox2 (below_size (hX HB.out)));replace HO_y1:=Aside0.mk (Kd.S_mono (Kd.S_told (Kd.S_told (Kd.S_old (sX HO_y1.out) hb) (Kd.R_base hox1)) (Kd.R_base hox2)) (fun _ h_=>h_.1));replace HB:=Aside0.mk (below_step (hX HB.out) hb);clear hb hox1 hox2;have px2:0≤(x4_1:Int):=of_decide_eq_true (by first | (with_reducible assumption) | assumption);have qx2:(x4_1:Int)<((x3_1.length:Int):Int):=of_decide_eq_true (by first | (with_reducible assumption) | assumption);obtain⟨gox1,cox1,eox1,gbx1,glx1,clx1,HGx1⟩:=Kd.S_form HO_y1.out (by omega);(first | cases eox1 | (injection eox1 with ea_ en_ ec_;(first | subst ea_ | (injection ea_ with ea_;subst ea_));subst ec_;clear en_));have GBx1:=Aside0.mk gbx1;have GGx1:=Aside0.mk HGx1;clear gbx1 glx1 HGx1;obtain⟨_,cex1,hclx1,hMx1,hccx1,hfrx1,_,_⟩:=Kd.S_elem HO_y1.out z175 (x4_1:Int) px2 qx2;obtain⟨vex1,vex2,rfl,gex1,gex2⟩:=k175_openM hMx1;have hxx6:wx1.cell? ⟨gox1,(x4_1:Int).toNat * 5,none⟩=some (.int .i64 ((rd_T175 x3_1 x4_1).f0)):=hccx1 0 _ rfl;have hxx7:wx1.cell? ⟨gox1,(x4_1:Int).toNat * 5+1,none⟩=some (.int .i64 ((rd_T175 x3_1 x4_1).f1)):=hccx1 1 _ rfl;have hxx8:wx1.cell? ⟨gox1,(x4_1:Int).toNat * 5+2,none⟩=some (vex1):=hccx1 2 _ rfl;have hxx9:wx1.cell? ⟨gox1,(x4_1:Int).toNat * 5+3,none⟩=some (.int .i64 ((rd_T175 x3_1 x4_1).f3.f0)):=hccx1 3 _ rfl;have hxx10:wx1.cell? ⟨gox1,(x4_1:Int).toNat * 5+4,none⟩=some (vex2):=hccx1 4 _ rfl;have hfx1:wx1.frozen? ⟨gox1,(x4_1:Int).toNat * 5,none⟩=false:=hfrx1 0;have hfx2:wx1.frozen? ⟨gox1,(x4_1:Int).toNat * 5+1,none⟩=false:=hfrx1 1;have hfx3:wx1.frozen? ⟨gox1,(x4_1:Int).toNat * 5+2,none⟩=false:=hfrx1 2;have hfx4:wx1.frozen? ⟨gox1,(x4_1:Int).toNat * 5+3,none⟩=false:=hfrx1 3;have hfx5:wx1.frozen? ⟨gox1,(x4_1:Int).toNat * 5+4,none⟩=false:=hfrx1 4;clear hclx1 hccx1 hfrx1 hMx1;replace px2:=eq_true px2;replace qx2:=eq_true qx2;obtain⟨Aox1,cox2,eox2⟩:=Kd.R_slice HOx1.out;subst eox2;obtain⟨Aox2,cox3,eox3⟩:=Kd.R_slice HOx2.out;subst eox3;have n_:=Aside0.mk (Kd.S_mono (ok':=(fun k_=>some k_ ≠ (.slice Aox1 t107.length cox2:Value).ownBlock∧some k_ ≠ (.slice Aox2 t111.length cox3:Value).ownBlock)) HO_y1.out (fun k_ hk=>⟨hk.1.2,hk.2⟩));clear HO_y1;have HO_y1:=n_;clear n_;have HXx1:=Aside0.mk (show Kd.S k175 175 wx1 w.heap.size (fun k_=>((fun _=>True)) k_∧¬ ((fun k_=>some k_=(.slice Aox1 t107.length cox2:Value).ownBlock ∨ some k_=(.slice Aox2 t111.length cox3:Value).ownBlock)) k_) (.slice (some ⟨gox1,0,none⟩) x3_1.length cox1) x3_1 from (by (with_reducible repeat (first | apply Kd.S_alloc | apply Kd.S_drewN | apply Kd.S_drew));exact Kd.S_mono HO_y1.out (fun k_ hk=>⟨trivial,fun e_=>e_.elim (fun h_=>hk.1 h_) (fun h_=>hk.2 h_)⟩)));obtain⟨okix1,cex2,hclx2,hMx2,hccx2,hfrx2,hokix1,hHx1⟩:=Kd.S_elem HXx1.out z175 (x4_1:Int) (of_decide_eq_true (by first | (with_reducible assumption) | assumption)) (by have h_:(x4_1:Int)<((x3_1.length:Int):Int):=of_decide_eq_true (by first | (with_reducible assumption) | assumption);first | exact h_ | (have e_:=(Kd.S_reads' HO_y1.out).1;omega) | simpa using h_);obtain⟨vex3,vex4,rfl,gex3,gex4⟩:=k175_openM hMx2;have HPx1:=Kd.S_seg hHx1 (of_decide_eq_true (by first | (with_reducible assumption) | assumption)) (by have h_:(x4_1:Int)<((x3_1.length:Int):Int):=of_decide_eq_true (by first | (with_reducible assumption) | assumption);first | exact h_ | (have e_:=(Kd.S_reads' HO_y1.out).1;omega) | simpa using h_) (seg:=[.int .i64 t105,.int .i64 t106,.slice Aox1 t107.length cox2,.int .i64 t110,.slice Aox2 t111.length cox3]) (j:=0) (show 5≤5 from by decide) (x':=(⟨t105,t106,t107,(⟨t110,t111⟩:S57)⟩:S175)) (k175_mkM _ _ _ (⟨t105,t106,t107,(⟨t110,t111⟩:S57)⟩:S175) (Kd.R_mono (Kd.R_tight rfl (Kd.R_mono (ok':=fun k_=>((fun _=>True)) k_∧k_ ≠ gox1) (Kd.R_apart' (HOx1.out) (Kd.S_typed HO_y1.out) (by decide)) (fun k_ hk=>⟨trivial,fun e_=>(hk.2) (by rw[e_];rfl)⟩))) (fun _ h_=>Or.inr (Or.inl h_))) (Kd.R_mono (Kd.R_tight rfl (Kd.R_mono (ok':=fun k_=>((fun _=>True)) k_∧k_ ≠ gox1) (Kd.R_apart' (HOx2.out) (Kd.S_typed HO_y1.out) (by decide)) (fun k_ hk=>⟨trivial,fun e_=>(hk.2) (by rw[e_];rfl)⟩))) (fun _ h_=>Or.inr (Or.inr (h_))))) (fun _ hk=>hk) (fun k_ hk_=>hk_.elim (fun h_=>((Kd.R_mono (ok':=fun k_=>((fun _=>True)) k_∧k_ ≠ gox1) (Kd.R_apart' (HOx1.out) (Kd.S_typed HO_y1.out) (by decide)) (fun k_ hk=>⟨trivial,fun e_=>(hk.2) (by rw[e_];rfl)⟩))).1 k_ h_.symm) (fun h_=>((Kd.R_mono (ok':=fun k_=>((fun _=>True)) k_∧k_ ≠ gox1) (Kd.R_apart' (HOx2.out) (Kd.S_typed HO_y1.out) (by decide)) (fun k_ hk=>⟨trivial,fun e_=>(hk.2) (by rw[e_];rfl)⟩))).1 k_ h_.symm));have hxx11:=hccx2 0 _ rfl;(try simp only[show (k175).sz=5 from rfl,Nat.mul_one,Nat.add_zero] at hxx11);have hfx6:=hfrx2 0;(try simp only[show (k175).sz=5 from rfl,Nat.mul_one,Nat.add_zero] at hfx6);have hxx12:=hccx2 1 _ rfl;(try simp only[show (k175).sz=5 from rfl,Nat.mul_one,Nat.add_zero] at hxx12);have hfx7:=hfrx2 1;(try simp only[show (k175).sz=5 from rfl,Nat.mul_one,Nat.add_zero] at hfx7);have hxx13:=hccx2 2 _ rfl;(try simp only[show (k175).sz=5 from rfl,Nat.mul_one,Nat.add_zero] at hxx13);have hfx8:=hfrx2 2;(try simp only[show (k175).sz=5 from rfl,Nat.mul_one,Nat.add_zero] at hfx8);have hxx14:=hccx2 3 _ rfl;(try simp only[show (k175).sz=5 from rfl,Nat.mul_one,Nat.add_zero] at hxx14);have hfx9:=hfrx2 3;(try simp only[show (k175).sz=5 from rfl,Nat.mul_one,Nat.add_zero] at hfx9);have hxx15:=hccx2 4 _ rfl;(try simp only[show (k175).sz=5 from rfl,Nat.mul_one,Nat.add_zero] at hxx15);have hfx10:=hfrx2 4;(try simp only[show (k175).sz=5 from rfl,Nat.mul_one,Nat.add_zero] at hfx10);clear hclx2 hccx2 hfrx2 hMx2 hokix1 hHx1) | ((with_reducible refine gate_store (t:=175) (p:=21) rfl ?_);refine store_event (t:=175) (p:=21) (v:=?vo_wx2) (w1:=(((((wx1.setCell ⟨gox1,(x4_1:Int).toNat * 5,none⟩ (.int .i64 t105)).setCell ⟨gox1,(x4_1:Int).toNat * 5+1,none⟩ (.int .i64 t106)).setCell ⟨gox1,(x4_1:Int).toNat * 5+2,none⟩ (.slice Aox1 t107.length cox2)).setCell ⟨gox1,(x4_1:Int).toNat * 5+3,none⟩ (.int .i64 t110)).setCell ⟨gox1,(x4_1:Int).toNat * 5+4,none⟩ (.slice Aox2 t111.length cox3))) ?hg ?ho ?hn ?hr ?_;(case ho=>rfl);(case hg=>rfl);(case hn=>rfl);(case hr=>first | (go_simp;done) | (go_simp;rfl));intro wx2 hw;have hg:wx1.grownBy wx2 (some gox1):=(by rw[hw];exact HPx1.2);have hp_:Kd.S k175 175 wx2 w.heap.size (fun _=>True) (.slice (some ⟨gox1,0,none⟩) x3_1.length cox1) y114:=(by rw[hw,Ny114.out];exact HPx1.1);clear HPx1;replace HO_y1:=Aside0.mk (hp_);replace HB:=Aside0.mk ((by rw[hw];exact below_set (below_set (below_set (below_set (below_set (HB.out) GBx1.out) GBx1.out) GBx1.out) GBx1.out) GBx1.out:Below w.heap.size w wx2));clear HOx1 HOx2;clear hg hw hp_))
    go_roundg k1
    case measure=>have:=HKy1.out;omega
    case rel=>exact⟨(y114),(wrap64 (x4_1+1)),rS,H',⟨by have:=HKy1.out;omega⟩,⟨(sX HO_y1.out)⟩,⟨(hX HB.out)⟩⟩
   ·rw[if_neg c6] at H
    have c6b0:=decide_eq_false c6
    clear c6
    obtain rfl:=Option.some.inj H
    go_wp2
    go_ret
    exact⟨_,rE,(sX HO_y1.out),(hX HB.out)⟩
end Go.Proofs.Yteamagejhbkhnaa.P
