/- A part of the proof of the law FnExactTold: texts of this seat, merged (words, printed functions of the program, plain lemmas). Conditions: none of its own. -/
import Derived.Test.YteamagejhbkhnaaPkFnExactTold15
import Derived.Test.YteamagejhbkhnaaPkFnExactTold16
set_option linter.unusedSimpArgs false
set_option linter.unusedVariables false
set_option maxHeartbeats 8000000
set_option maxRecDepth 100000
namespace Go.Proofs.Yteamagejhbkhnaa.P
open Go.Proofs.YteamagejhbkhnaaZ Go.RowKit Go.Proofs.YteamagejhbkhnaaW.PrintWords Go.Proofs.YteamagejhbkhnaaW.PrintLast Go.Proofs.YteamagejhbkhnaaW.PrintMore
attribute [local go_sem] max2_int min2_int max_two min_two max_three min_three max_four min_four   -- for this text's walks alone
def Xb.l0:Nat→List (S146)→List (S146)→Int→Option (Bool)
 | 0,_,_,_=>none
 | k+1,x0,x1,x5=>if x5<(x0.length:Int) then (if 0≤x5 then (if x5<(x1.length:Int) then ((XT.f k ((rd_T146 x0 x5).f0) ((rd_T146 x0 x5).f1) ((rd_T146 x0 x5).f2) ((rd_T146 x0 x5).f3) ((rd_T146 x0 x5).f4) ((rd_T146 x1 x5).f0) ((rd_T146 x1 x5).f1) ((rd_T146 x1 x5).f2) ((rd_T146 x1 x5).f3) ((rd_T146 x1 x5).f4)).bind fun t103=>(if t103=true then (Xb.l0 k x0 x1 (wrap64 (x5+1))) else (some false))) else (none)) else (none)) else (some true)
def Xb.f (k:Nat) (l0:List (S146)) (l1:List (S146)):Option (Bool):=if (l0.length:Int)=(l1.length:Int) then (Xb.l0 k l0 l1 0) else (some false)
def Xb.T6:Bool × List (List Nat × List Nat):=(true,[([],[]),([],[]),([0,1],[0,1]),([2],[2]),([],[]),([],[]),([4,5],[4,5]),([6],[6]),([3,7],[3,7]),([8],[8])])
def Xb.B6:List Nat:=[0,0,3,7,0,0,48,112,255,511]
theorem Xb.tab6:rtab .any (opsOf Try.f121 6)=Xb.T6:=by kernel_rfl
theorem Xb.bits6:waitsOk Xb.T6.2 Xb.B6=true:=by kernel_rfl
theorem Xb.calls (k:Nat) (A0:Option Addr) (c0:Nat) (l0:List (S146)) (A1:Option Addr) (c1:Nat) (l1:List (S146)) (r:Bool) (w:World) (hr0:Kd.C k146 w A0 l0.length l0) (hc0:l0.length≤c0) (hr1:Kd.C k146 w A1 l1.length l1) (hc1:l1.length≤c1) (h:Xb.f k l0 l1=some r) :
  Calls Try.prog 121 #[.slice A0 l0.length c0,.slice A1 l1.length c1] w fun e w'=>e = .returned (.bool r)∧Below w.heap.size w w':=by
 have hu146:=Try.underlying146
 have HR0:=Aside0.mk hr0
 have HC0:=Aside0.mk hc0
 clear hr0 hc0
 have HR1:=Aside0.mk hr1
 have HC1:=Aside0.mk hc1
 clear hr1 hc1
 have HB:=Aside0.mk (Below.refl w.heap.size w)
 have H:=h
 unfold Xb.f at H
 clear h
 go_enter Try.func121,Try.ntmps121
 by_cases c3:(l0.length:Int)=(l1.length:Int)
 ·rw[if_pos c3] at H
  obtain⟨c3b0,c3b1⟩:=eqT c3
  have c3b2:(l0.length == l1.length)=true:=by first | simpa using c3 | (simp at c3 ⊢;omega)
  clear c3
  have H':=Aside0.mk H
  clear H
  go_wp2
  go_loopg [5] k (fun kq v5 w'=>∃ (x5_1:Int),v5 = .int .i64 x5_1∧Aside0 (Xb.l0 kq l0 l1 x5_1=some r)∧Aside0 (kq≤k)∧Aside0 (Below w.heap.size w w'))
  case atStart=>exact⟨(0),rS,H',⟨Nat.le_refl _⟩,⟨(hX HB.out)⟩⟩
  case round =>
   clear H'
   try clear c1
   try clear p2
   try clear c3
   try clear c3b0
   try clear c3b1
   try clear c3b2
   obtain⟨x5_1,rfl,HA,HKy1,HB⟩:=hrel
   cases gk with
   | zero=>exact absurd HA.out (by simp[Xb.l0])
   | succ k1 =>
    have H:=HA.out
    clear HA
    simp only[Xb.l0] at H
    by_cases c4:x5_1<(l0.length:Int)
    ·rw[if_pos c4] at H
     have c4b0:=decide_eq_true c4
     clear c4
     replace H:=ifP H;obtain⟨c5,H⟩:=H
     have c5b0:=decide_eq_true c5
     clear c5
     replace H:=ifP H;obtain⟨c6,H⟩:=H
     have c6b0:=decide_eq_true c6
     clear c6
     replace H:=bE H;obtain⟨t103,A7,H⟩:=H
     try go_wp2
     replace HB:=Aside0.mk (below_drew1 HB.out)
     have px1:0≤(x5_1:Int):=of_decide_eq_true (by first | (with_reducible assumption) | assumption)
     have qx1:x5_1<(l0.length:Int):=of_decide_eq_true (by first | (with_reducible assumption) | assumption)
     obtain⟨adx1,Ax1,cx1,Ax2,cx2,Ax3,cx3,ex1,hxx1,hxx2,hxx3,hxx4,hxx5,hlx1,hix1,hlx2,hix2,hlx3,hix3⟩:=at_T146 HR0.out x5_1 px1 qx1
     have hwx1:=hxx5
     have hwx2:=hxx4
     have hwx3:=hxx3
     have hwx4:=hxx2
     have hwx5:=hxx1
     cases ex1
     replace hxx1:=(HB.out.cell (World.block_lt_of_cell? w _ hxx1)).trans hxx1
     replace hxx2:=(HB.out.cell (World.block_lt_of_cell? w _ hxx2)).trans hxx2
     replace hxx3:=(HB.out.cell (World.block_lt_of_cell? w _ hxx3)).trans hxx3
     replace hxx4:=(HB.out.cell (World.block_lt_of_cell? w _ hxx4)).trans hxx4
     replace hxx5:=(HB.out.cell (World.block_lt_of_cell? w _ hxx5)).trans hxx5
     have HRx1:=Aside0.mk hix1
     have HCx1:=Aside0.mk hlx1
     clear hix1 hlx1
     have HRx2:=Aside0.mk hix2
     have HCx2:=Aside0.mk hlx2
     clear hix2 hlx2
     have HRx3:=Aside0.mk hix3
     have HCx3:=Aside0.mk hlx3
     clear hix3 hlx3
     replace px1:=eq_true px1
     replace qx1:=eq_true qx1
     have px2:0≤(x5_1:Int):=of_decide_eq_true (by first | (with_reducible assumption) | assumption)
     have qx2:x5_1<(l1.length:Int):=of_decide_eq_true (by first | (with_reducible assumption) | assumption)
     obtain⟨adx2,Ax4,cx4,Ax5,cx5,Ax6,cx6,ex2,hxx6,hxx7,hxx8,hxx9,hxx10,hlx4,hix4,hlx5,hix5,hlx6,hix6⟩:=at_T146 HR1.out x5_1 px2 qx2
     have hwx6:=hxx10
     have hwx7:=hxx9
     have hwx8:=hxx8
     have hwx9:=hxx7
     have hwx10:=hxx6
     cases ex2
     replace hxx6:=(HB.out.cell (World.block_lt_of_cell? w _ hxx6)).trans hxx6
     replace hxx7:=(HB.out.cell (World.block_lt_of_cell? w _ hxx7)).trans hxx7
     replace hxx8:=(HB.out.cell (World.block_lt_of_cell? w _ hxx8)).trans hxx8
     replace hxx9:=(HB.out.cell (World.block_lt_of_cell? w _ hxx9)).trans hxx9
     replace hxx10:=(HB.out.cell (World.block_lt_of_cell? w _ hxx10)).trans hxx10
     have HRx4:=Aside0.mk hix4
     have HCx4:=Aside0.mk hlx4
     clear hix4 hlx4
     have HRx5:=Aside0.mk hix5
     have HCx5:=Aside0.mk hlx5
     clear hix5 hlx5
     have HRx6:=Aside0.mk hix6
     have HCx6:=Aside0.mk hlx6
     clear hix6 hlx6
     replace px2:=eq_true px2
     replace qx2:=eq_true qx2
     refine start_ (n:=10) (S:=fun w'=>w'.cell? (adx1.add ((x5_1).toNat * 5))=some (.slice Ax1 ((rd_T146 l0 x5_1).f0).length cx1)∧w'.cell? ⟨(adx1.add ((x5_1).toNat * 5)).block,(adx1.add ((x5_1).toNat * 5)).off+1,none⟩=some (.int .i64 ((rd_T146 l0 x5_1).f1))∧w'.cell? ⟨(adx1.add ((x5_1).toNat * 5)).block,(adx1.add ((x5_1).toNat * 5)).off+2,none⟩=some (.bool ((rd_T146 l0 x5_1).f2))∧w'.cell? ⟨(adx1.add ((x5_1).toNat * 5)).block,(adx1.add ((x5_1).toNat * 5)).off+3,none⟩=some (.slice Ax2 ((rd_T146 l0 x5_1).f3).length cx2)∧w'.cell? ⟨(adx1.add ((x5_1).toNat * 5)).block,(adx1.add ((x5_1).toNat * 5)).off+4,none⟩=some (.slice Ax3 ((rd_T146 l0 x5_1).f4).length cx3)∧w'.cell? (adx2.add ((x5_1).toNat * 5))=some (.slice Ax4 ((rd_T146 l1 x5_1).f0).length cx4)∧w'.cell? ⟨(adx2.add ((x5_1).toNat * 5)).block,(adx2.add ((x5_1).toNat * 5)).off+1,none⟩=some (.int .i64 ((rd_T146 l1 x5_1).f1))∧w'.cell? ⟨(adx2.add ((x5_1).toNat * 5)).block,(adx2.add ((x5_1).toNat * 5)).off+2,none⟩=some (.bool ((rd_T146 l1 x5_1).f2))∧w'.cell? ⟨(adx2.add ((x5_1).toNat * 5)).block,(adx2.add ((x5_1).toNat * 5)).off+3,none⟩=some (.slice Ax5 ((rd_T146 l1 x5_1).f3).length cx5)∧w'.cell? ⟨(adx2.add ((x5_1).toNat * 5)).block,(adx2.add ((x5_1).toNat * 5)).off+4,none⟩=some (.slice Ax6 ((rd_T146 l1 x5_1).f4).length cx6)) (ds:=[]) (bm 10 0) (by kernel_rfl) rfl (by kernel_rfl) ⟨((HB.out.cell (World.block_lt_of_cell? w _ hwx5)).trans hwx5),((HB.out.cell (World.block_lt_of_cell? w _ hwx4)).trans hwx4),((HB.out.cell (World.block_lt_of_cell? w _ hwx3)).trans hwx3),((HB.out.cell (World.block_lt_of_cell? w _ hwx2)).trans hwx2),((HB.out.cell (World.block_lt_of_cell? w _ hwx1)).trans hwx1),((HB.out.cell (World.block_lt_of_cell? w _ hwx10)).trans hwx10),((HB.out.cell (World.block_lt_of_cell? w _ hwx9)).trans hwx9),((HB.out.cell (World.block_lt_of_cell? w _ hwx8)).trans hwx8),((HB.out.cell (World.block_lt_of_cell? w _ hwx7)).trans hwx7),((HB.out.cell (World.block_lt_of_cell? w _ hwx6)).trans hwx6)⟩ (fun hHeld => ?_);refine with_tabW Xb.tab6 Xb.bits6 (fun HT_ HW_ => ?_)
     generalize wr.drew=wx1 at HB HRx1 HRx2 HRx3 HRx4 HRx5 HRx6 hxx1 hxx2 hxx3 hxx4 hxx5 hxx6 hxx7 hxx8 hxx9 hxx10 hHeld ⊢
     refine pZ 0 17 (bm 10 1) HT_.out ?_
     refine pZ 1 18 (bm 10 3) HT_.out ?_
     refine pZ 2 19 (bm 10 7) HT_.out ?_
     refine pZ 4 21 (bm 10 23) HT_.out ?_
     refine pZ 5 22 (bm 10 55) HT_.out ?_
     refine pZ 6 23 (bm 10 119) HT_.out ?_
     refine tZ 3 20 (bm 10 127) HT_.out HW_.out hHeld ?_
     refine tZ 7 24 (bm 10 255) HT_.out HW_.out hHeld ?_
     by_cases c8:t103=true
     ·subst c8
      rw[if_pos rfl] at H
      have H':=Aside0.mk H
      clear H
      refine oZ 8 (some 25) (bm 10 511) HT_.out (fun K hK => ?_)
      refine goesN Try.func146 #[.agg #[.slice Ax1 ((rd_T146 l0 x5_1).f0).length cx1,.int .i64 ((rd_T146 l0 x5_1).f1),.bool ((rd_T146 l0 x5_1).f2),.slice Ax2 ((rd_T146 l0 x5_1).f3).length cx2,.slice Ax3 ((rd_T146 l0 x5_1).f4).length cx3],.agg #[.slice Ax4 ((rd_T146 l1 x5_1).f0).length cx4,.int .i64 ((rd_T146 l1 x5_1).f1),.bool ((rd_T146 l1 x5_1).f2),.slice Ax5 ((rd_T146 l1 x5_1).f3).length cx5,.slice Ax6 ((rd_T146 l1 x5_1).f4).length cx6]] ?_
      with_reducible refine(XT.calls k1 _ _ ((rd_T146 l0 x5_1).f0) ((rd_T146 l0 x5_1).f1) ((rd_T146 l0 x5_1).f2) _ _ ((rd_T146 l0 x5_1).f3) _ _ ((rd_T146 l0 x5_1).f4) _ _ ((rd_T146 l1 x5_1).f0) ((rd_T146 l1 x5_1).f1) ((rd_T146 l1 x5_1).f2) _ _ ((rd_T146 l1 x5_1).f3) _ _ ((rd_T146 l1 x5_1).f4) true _ ?side1 ?side2 ?side3 ?side4 ?side5 ?side6 ?side7 ?side8 ?side9 ?side10 ?side11 ?side12 A7.out).mono ?_
      (case side1=>repeat (first | exact(Kd.C_below HRx1.out HB.out) | (with_reducible refine Kd.C_alloc ?_ _) | (with_reducible refine Kd.C_drewN ?_ _) | (with_reducible refine Kd.C_drew ?_)))
      (case side2=>exact HCx1.out)
      (case side3=>repeat (first | exact(Kd.C_below HRx2.out HB.out) | (with_reducible refine Kd.C_alloc ?_ _) | (with_reducible refine Kd.C_drewN ?_ _) | (with_reducible refine Kd.C_drew ?_)))
      (case side4=>exact HCx2.out)
      (case side5=>repeat (first | exact(Kd.C_below HRx3.out HB.out) | (with_reducible refine Kd.C_alloc ?_ _) | (with_reducible refine Kd.C_drewN ?_ _) | (with_reducible refine Kd.C_drew ?_)))
      (case side6=>exact HCx3.out)
      (case side7=>repeat (first | exact(Kd.C_below HRx4.out HB.out) | (with_reducible refine Kd.C_alloc ?_ _) | (with_reducible refine Kd.C_drewN ?_ _) | (with_reducible refine Kd.C_drew ?_)))
      (case side8=>exact HCx4.out)
      (case side9=>repeat (first | exact(Kd.C_below HRx5.out HB.out) | (with_reducible refine Kd.C_alloc ?_ _) | (with_reducible refine Kd.C_drewN ?_ _) | (with_reducible refine Kd.C_drew ?_)))
      (case side10=>exact HCx5.out)
      (case side11=>repeat (first | exact(Kd.C_below HRx6.out HB.out) | (with_reducible refine Kd.C_alloc ?_ _) | (with_reducible refine Kd.C_drewN ?_ _) | (with_reducible refine Kd.C_drew ?_)))
      (case side12=>exact HCx6.out)
      rintro e wx2 ⟨rfl,hb⟩
      refine⟨_,rfl,?_⟩
      replace HB:=Aside0.mk (below_step (hX HB.out) hb)
      (try clear hb)
      (try clear hb2)
      (try clear hk)
      (try clear hi)
      refine hK.out _ _ ⟨((HB.out.cell (World.block_lt_of_cell? w _ hwx5)).trans hwx5),((HB.out.cell (World.block_lt_of_cell? w _ hwx4)).trans hwx4),((HB.out.cell (World.block_lt_of_cell? w _ hwx3)).trans hwx3),((HB.out.cell (World.block_lt_of_cell? w _ hwx2)).trans hwx2),((HB.out.cell (World.block_lt_of_cell? w _ hwx1)).trans hwx1),((HB.out.cell (World.block_lt_of_cell? w _ hwx10)).trans hwx10),((HB.out.cell (World.block_lt_of_cell? w _ hwx9)).trans hwx9),((HB.out.cell (World.block_lt_of_cell? w _ hwx8)).trans hwx8),((HB.out.cell (World.block_lt_of_cell? w _ hwx7)).trans hwx7),((HB.out.cell (World.block_lt_of_cell? w _ hwx6)).trans hwx6)⟩ (fun hHeld => ?_)
      clear hK K
      refine nZ 25 ?_
      refine pZ 9 26 (bm 10 1023) HT_.out ?_
      refine done_ (done_of HT_.out (by kernel_rfl)) ?_
      try go_wp2
      go_roundg k1
      case measure=>have:=HKy1.out;omega
      case rel=>exact⟨(wrap64 (x5_1+1)),rS,H',⟨by have:=HKy1.out;omega⟩,⟨(hX HB.out)⟩⟩
     ·replace c8:=Bool.eq_false_iff.mpr c8
      subst c8
      rw[if_neg nft] at H
      obtain rfl:=Option.some.inj H
      refine oZ 8 (some 25) (bm 10 511) HT_.out (fun K hK => ?_)
      refine goesN Try.func146 #[.agg #[.slice Ax1 ((rd_T146 l0 x5_1).f0).length cx1,.int .i64 ((rd_T146 l0 x5_1).f1),.bool ((rd_T146 l0 x5_1).f2),.slice Ax2 ((rd_T146 l0 x5_1).f3).length cx2,.slice Ax3 ((rd_T146 l0 x5_1).f4).length cx3],.agg #[.slice Ax4 ((rd_T146 l1 x5_1).f0).length cx4,.int .i64 ((rd_T146 l1 x5_1).f1),.bool ((rd_T146 l1 x5_1).f2),.slice Ax5 ((rd_T146 l1 x5_1).f3).length cx5,.slice Ax6 ((rd_T146 l1 x5_1).f4).length cx6]] ?_
      with_reducible refine(XT.calls k1 _ _ ((rd_T146 l0 x5_1).f0) ((rd_T146 l0 x5_1).f1) ((rd_T146 l0 x5_1).f2) _ _ ((rd_T146 l0 x5_1).f3) _ _ ((rd_T146 l0 x5_1).f4) _ _ ((rd_T146 l1 x5_1).f0) ((rd_T146 l1 x5_1).f1) ((rd_T146 l1 x5_1).f2) _ _ ((rd_T146 l1 x5_1).f3) _ _ ((rd_T146 l1 x5_1).f4) false _ ?side1 ?side2 ?side3 ?side4 ?side5 ?side6 ?side7 ?side8 ?side9 ?side10 ?side11 ?side12 A7.out).mono ?_
      (case side1=>repeat (first | exact(Kd.C_below HRx1.out HB.out) | (with_reducible refine Kd.C_alloc ?_ _) | (with_reducible refine Kd.C_drewN ?_ _) | (with_reducible refine Kd.C_drew ?_)))
      (case side2=>exact HCx1.out)
      (case side3=>repeat (first | exact(Kd.C_below HRx2.out HB.out) | (with_reducible refine Kd.C_alloc ?_ _) | (with_reducible refine Kd.C_drewN ?_ _) | (with_reducible refine Kd.C_drew ?_)))
      (case side4=>exact HCx2.out)
      (case side5=>repeat (first | exact(Kd.C_below HRx3.out HB.out) | (with_reducible refine Kd.C_alloc ?_ _) | (with_reducible refine Kd.C_drewN ?_ _) | (with_reducible refine Kd.C_drew ?_)))
      (case side6=>exact HCx3.out)
      (case side7=>repeat (first | exact(Kd.C_below HRx4.out HB.out) | (with_reducible refine Kd.C_alloc ?_ _) | (with_reducible refine Kd.C_drewN ?_ _) | (with_reducible refine Kd.C_drew ?_)))
      (case side8=>exact HCx4.out)
      (case side9=>repeat (first | exact(Kd.C_below HRx5.out HB.out) | (with_reducible refine Kd.C_alloc ?_ _) | (with_reducible refine Kd.C_drewN ?_ _) | (with_reducible refine Kd.C_drew ?_)))
      (case side10=>exact HCx5.out)
      (case side11=>repeat (first | exact(Kd.C_below HRx6.out HB.out) | (with_reducible refine Kd.C_alloc ?_ _) | (with_reducible refine Kd.C_drewN ?_ _) | (with_reducible refine Kd.C_drew ?_)))
      (case side12=>exact HCx6.out)
      rintro e wx2 ⟨rfl,hb⟩
      refine⟨_,rfl,?_⟩
      replace HB:=Aside0.mk (below_step (hX HB.out) hb)
      (try clear hb)
      (try clear hb2)
      (try clear hk)
      (try clear hi)
      refine hK.out _ _ ⟨((HB.out.cell (World.block_lt_of_cell? w _ hwx5)).trans hwx5),((HB.out.cell (World.block_lt_of_cell? w _ hwx4)).trans hwx4),((HB.out.cell (World.block_lt_of_cell? w _ hwx3)).trans hwx3),((HB.out.cell (World.block_lt_of_cell? w _ hwx2)).trans hwx2),((HB.out.cell (World.block_lt_of_cell? w _ hwx1)).trans hwx1),((HB.out.cell (World.block_lt_of_cell? w _ hwx10)).trans hwx10),((HB.out.cell (World.block_lt_of_cell? w _ hwx9)).trans hwx9),((HB.out.cell (World.block_lt_of_cell? w _ hwx8)).trans hwx8),((HB.out.cell (World.block_lt_of_cell? w _ hwx7)).trans hwx7),((HB.out.cell (World.block_lt_of_cell? w _ hwx6)).trans hwx6)⟩ (fun hHeld => ?_)
      clear hK K
      refine nZ 25 ?_
      refine pZ 9 26 (bm 10 1023) HT_.out ?_
      refine done_ (done_of HT_.out (by kernel_rfl)) ?_
      try go_wp2
      go_ret
      exact⟨rE,(hX HB.out)⟩
    ·rw[if_neg c4] at H
     have c4b0:=decide_eq_false c4
     clear c4
     obtain rfl:=Option.some.inj H
     go_wp2
     go_ret
     exact⟨rE,(hX HB.out)⟩
 ·rw[if_neg c3] at H
  obtain⟨c3b0,c3b1⟩:=eqF c3
  have c3b2:(l0.length == l1.length)=false:=by first | simpa using c3 | (simp at c3 ⊢;omega)
  obtain rfl:=Option.some.inj H
  go_wp2
  go_ret
  exact⟨rE,(hX HB.out)⟩
end Go.Proofs.Yteamagejhbkhnaa.P
namespace Go.Proofs.YteamagejhbkhnaaZ
open Go.RowKit Go.Proofs.YteamagejhbkhnaaW.PrintWords Go.Proofs.YteamagejhbkhnaaW.PrintLast Go.Proofs.YteamagejhbkhnaaW.PrintMore
structure Rw {α : Type} (k : Kd α) (w : World) (A : Option Addr) (c : Nat) (l : List α) : Prop where
  C : Aside0 (k.C w A l.length l)
  L : Aside0 (l.length ≤ c)
end Go.Proofs.YteamagejhbkhnaaZ
namespace Go.Proofs.Yteamagejhbkhnaa.P
open Go.RowKit Go.Proofs.YteamagejhbkhnaaW.PrintWords Go.Proofs.YteamagejhbkhnaaW.PrintLast Go.Proofs.YteamagejhbkhnaaZ
abbrev qC:=S59
theorem pick_ev {τ:Type} (l:List τ) (p:τ→Bool) {g:Nat→List τ→Int→Option (List τ)} (hend:∀ out,Ev (fun k=>g k out (l.length:Int)) out)
  (hyes:∀ (out:List τ) (i:Nat) (x:τ) (r:List τ),l[i]? = some x→i<l.length→out.length≤i→p x=true→Ev (fun k=>g k (out ++ [x]) ((i+1:Nat):Int)) r→Ev (fun k=>g k out (i:Int)) r)
  (hno:∀ (out:List τ) (i:Nat) (x:τ) (r:List τ),l[i]? = some x→i<l.length→out.length≤i→p x=false→Ev (fun k=>g k out ((i+1:Nat):Int)) r→Ev (fun k=>g k out (i:Int)) r) :
  Ev (fun k=>g k [] 0) (l.filter p):=by
 have key:∀ (B A out:List τ),l=A ++ B→out.length≤A.length→Ev (fun k=>g k out (A.length:Int)) (out ++ B.filter p):=by
  intro B
  induction B with
  | nil =>
   intro A out hA ho
   rw[List.append_nil] at hA
   rw[← hA]
   simpa using hend out
  | cons x B ih =>
   intro A out hA ho
   have hx:l[A.length]? = some x:=by rw[hA];exact get_mid A x B
   have hi:A.length<l.length:=by simp[hA]
   have e:(A ++ [x]).length=A.length+1:=by simp
   cases hp:p x with
   | true =>
    have h:=ih (A ++ [x]) (out ++ [x]) (by simp[hA]) (by simp;exact ho)
    rw[e] at h
    refine(hyes out A.length x _ hx hi ho hp h).to ?_
    simp[List.filter_cons,hp]
   | false =>
    have h:=ih (A ++ [x]) out (by simp[hA]) (by simp;omega)
    rw[e] at h
    refine(hno out A.length x _ hx hi ho hp h).to ?_
    simp[List.filter_cons,hp]
 simpa using key l [] [] rfl (Nat.le_refl _)
def soC (x:qC):Bool:=decide (x.f4 ≥ 0) || decide (x.f3 ≥ 0)
theorem l6Res_eq (a:Int) (l:List Int) (h:l.length≤1048576):XJ.f a l=some (a,l):=by
 simp only[XJ.f,Option.bind_some,List.length_nil,Nat.zero_add,List.nil_append]
 rw[if_pos (by omega)]
theorem copyRes_eq (a:Int) (l:List Int) (h:l.length≤1048576):X6.f a l=some (a,l):=by
 simp only[X6.f,slices_Clone_int_int.f]
 rw[if_pos (by omega)]
 rfl
theorem wasSo_eq (x:qC):X9.f x.f0 x.f1.f0 x.f1.f1 x.f1.f2 x.f2 x.f3 x.f4 x.f5.f0 x.f5.f1=some (soC x):=by
 unfold X9.f soC
 by_cases h:x.f4 ≥ 0
 ·rw[if_pos h,decide_eq_true h];rfl
 ·rw[if_neg h,decide_eq_false h];rfl
theorem l12Told_ev (l:List qC) (hl:l.length≤1048576) (hs:∀ x ∈ l,x.f5.f1.length≤1048576):Ev (fun k=>Xk.f k l) (l.filter soC):=by
 simp only[Xk.f]
 refine pick_ev l soC (g:=fun k out i=>Xk.l0 k l out i) (fun out => ?_) (fun out i x r hx hi ho hp h => ?_) (fun out i x r hx hi ho hp h => ?_)
 ·refine Ev.shift ?_
  simp only[Xk.l0,Int.lt_irrefl,if_false]
  exact Ev.now _
 ·refine Ev.shift ?_
  have d1:(i:Int)<(l.length:Int):=by omega
  have d2:(0:Int)≤(i:Int):=by omega
  have d3:rd_T59 l (i:Int)=x:=getD_get hx
  have hx5:=hs x (List.mem_of_getElem? hx)
  have d4:out.length<1599289640401:=by omega
  simp only[Xk.l0,d1,d2,d3,d4,if_true,l6Res_eq _ _ hx5,Option.bind_some,succ64 hi (by omega)]
  by_cases h4:x.f4 ≥ 0
  ·exact Ev.pos h4 h
  ·have h3:x.f3 ≥ 0:=by
    unfold soC at hp
    rw[decide_eq_false h4,Bool.false_or] at hp
    exact of_decide_eq_true hp
   exact Ev.neg h4 (Ev.pos h3 h)
 ·refine Ev.shift ?_
  have d1:(i:Int)<(l.length:Int):=by omega
  have d2:(0:Int)≤(i:Int):=by omega
  have d3:rd_T59 l (i:Int)=x:=getD_get hx
  have h4:¬ x.f4 ≥ 0:=fun c=>by unfold soC at hp;rw[decide_eq_true c] at hp;cases hp
  have h3:¬ x.f3 ≥ 0:=fun c=>by unfold soC at hp;rw[decide_eq_true c,Bool.or_true] at hp;cases hp
  simp only[Xk.l0,d1,d2,d3,h4,h3,if_true,if_false,succ64 hi (by omega)]
  exact h
theorem specTold_ev (w:List S170) (d:List S175) (t:List S146) (n:Int) (l:List qC) (p q:List Int) (s:Int) (hl:l.length≤1048576) (hs:∀ x ∈ l,x.f5.f1.length≤1048576):Ev (fun k=>Xaq.f k w d t n l p q s) (l.filter soC):=by
 simp only[Xaq.f]
 exact Ev.bind (l12Told_ev l hl hs) (Ev.now _)
theorem implTold_ev (w:List S170) (d:List S175) (t:List S146) (n:Int) (l:List qC) (p q:List Int) (s:Int) (hl:l.length≤1048576) (hs:∀ x ∈ l,x.f5.f1.length≤1048576):Ev (fun k=>XG.f k w d t n l p q s) (l.filter soC):=by
 simp only[XG.f]
 refine pick_ev l soC (g:=fun k out i=>XG.l0 k out l (l.length:Int) i) (fun out => ?_) (fun out i x r hx hi ho hp h => ?_) (fun out i x r hx hi ho hp h => ?_)
 ·refine Ev.shift ?_
  simp only[XG.l0,Int.lt_irrefl,if_false]
  exact Ev.now _
 ·refine Ev.shift ?_
  have d1:(i:Int)<(l.length:Int):=by omega
  have d2:(0:Int)≤(i:Int):=by omega
  have d3:rd_T59 l (i:Int)=x:=getD_get hx
  have hx5:=hs x (List.mem_of_getElem? hx)
  have d4:out.length<1599289640401:=by omega
  simp only[XG.l0,d1,d2,d3,d4,if_true,wasSo_eq,hp,copyRes_eq _ _ hx5,Option.bind_some,succ64 hi (by omega)]
  exact h
 ·refine Ev.shift ?_
  have d1:(i:Int)<(l.length:Int):=by omega
  have d2:(0:Int)≤(i:Int):=by omega
  have d3:rd_T59 l (i:Int)=x:=getD_get hx
  simp only[XG.l0,d1,d2,d3,if_true,wasSo_eq,hp,Option.bind_some,Bool.false_eq_true,if_false,succ64 hi (by omega)]
  exact h
end Go.Proofs.Yteamagejhbkhnaa.P
