/- A part of the proof of the law FnExactTold: texts of this seat, merged (words, printed functions of the program, plain lemmas). Conditions: none of its own. -/
import Derived.Test.YteamagejhbkhnaaPkFnExactTold7
import Derived.Test.YteamagejhbkhnaaPkFnExactTold8
set_option linter.unusedSimpArgs false
set_option linter.unusedVariables false
set_option maxHeartbeats 8000000
set_option maxRecDepth 100000
namespace Go.Proofs.Yteamagejhbkhnaa.P
open Go.Proofs.YteamagejhbkhnaaZ Go.RowKit Go.Proofs.YteamagejhbkhnaaW.PrintWords Go.Proofs.YteamagejhbkhnaaW.PrintLast Go.Proofs.YteamagejhbkhnaaW.PrintMore
attribute [local go_sem] max2_int min2_int max_two min_two max_three min_three max_four min_four   -- for this text's walks alone
def Xm.l0:Nat→List (S56)→List (S56)→Int→Option (Bool)
 | 0,_,_,_=>none
 | k+1,x0,x1,x5=>if x5<(x0.length:Int) then (if 0≤x5 then (if x5<(x1.length:Int) then ((XV.f ((rd_T56 x0 x5).f0) ((rd_T56 x0 x5).f1) ((rd_T56 x0 x5).f2) ((rd_T56 x1 x5).f0) ((rd_T56 x1 x5).f1) ((rd_T56 x1 x5).f2)).bind fun t103=>(if t103=true then (Xm.l0 k x0 x1 (wrap64 (x5+1))) else (some false))) else (none)) else (none)) else (some true)
def Xm.f (k:Nat) (l0:List (S56)) (l1:List (S56)):Option (Bool):=if (l0.length:Int)=(l1.length:Int) then (Xm.l0 k l0 l1 0) else (some false)
def Xm.T6:Bool × List (List Nat × List Nat):=(true,[([],[]),([],[]),([0,1],[0,1]),([2],[2]),([],[]),([],[]),([4,5],[4,5]),([6],[6]),([3,7],[3,7]),([8],[8])])
def Xm.B6:List Nat:=[0,0,3,7,0,0,48,112,255,511]
theorem Xm.tab6:rtab .any (opsOf Try.f171 6)=Xm.T6:=by kernel_rfl
theorem Xm.bits6:waitsOk Xm.T6.2 Xm.B6=true:=by kernel_rfl
theorem Xm.calls (k:Nat) (A0:Option Addr) (c0:Nat) (l0:List (S56)) (A1:Option Addr) (c1:Nat) (l1:List (S56)) (r:Bool) (w:World) (hr0:Kd.C k56 w A0 l0.length l0) (hc0:l0.length≤c0) (hr1:Kd.C k56 w A1 l1.length l1) (hc1:l1.length≤c1) (h:Xm.f k l0 l1=some r) :
  Calls Try.prog 171 #[.slice A0 l0.length c0,.slice A1 l1.length c1] w fun e w'=>e = .returned (.bool r)∧Below w.heap.size w w':=by
 have hu56:=Try.underlying56
 have HR0:=Aside0.mk hr0
 have HC0:=Aside0.mk hc0
 clear hr0 hc0
 have HR1:=Aside0.mk hr1
 have HC1:=Aside0.mk hc1
 clear hr1 hc1
 have HB:=Aside0.mk (Below.refl w.heap.size w)
 have H:=h
 unfold Xm.f at H
 clear h
 go_enter Try.func171,Try.ntmps171
 by_cases c3:(l0.length:Int)=(l1.length:Int)
 ·rw[if_pos c3] at H
  obtain⟨c3b0,c3b1⟩:=eqT c3
  have c3b2:(l0.length == l1.length)=true:=by first | simpa using c3 | (simp at c3 ⊢;omega)
  clear c3
  have H':=Aside0.mk H
  clear H
  go_wp2
  go_loopg [5] k (fun kq v5 w'=>∃ (x5_1:Int),v5 = .int .i64 x5_1∧Aside0 (Xm.l0 kq l0 l1 x5_1=some r)∧Aside0 (kq≤k)∧Aside0 (Below w.heap.size w w'))
  case atStart=>exact⟨(0),rS,H',⟨Nat.le_refl _⟩,⟨(hX HB.out)⟩⟩
  case round =>
   clear H'
   try clear c1
   try clear p2
   try clear c3
   try clear c3b0
   try clear c3b1
   try clear c3b2
   obtain⟨x5_1,rfl,HA,HKy1,HB⟩:=hrel
   cases gk with
   | zero=>exact absurd HA.out (by simp[Xm.l0])
   | succ k1 =>
    have H:=HA.out
    clear HA
    simp only[Xm.l0] at H
    by_cases c4:x5_1<(l0.length:Int)
    ·rw[if_pos c4] at H
     have c4b0:=decide_eq_true c4
     clear c4
     replace H:=ifP H;obtain⟨c5,H⟩:=H
     have c5b0:=decide_eq_true c5
     clear c5
     replace H:=ifP H;obtain⟨c6,H⟩:=H
     have c6b0:=decide_eq_true c6
     clear c6
     replace H:=bE H;obtain⟨t103,A7,H⟩:=H
     try go_wp2
     replace HB:=Aside0.mk (below_drew1 HB.out)
     have px1:0≤(x5_1:Int):=of_decide_eq_true (by first | (with_reducible assumption) | assumption)
     have qx1:x5_1<(l0.length:Int):=of_decide_eq_true (by first | (with_reducible assumption) | assumption)
     obtain⟨adx1,ex1,hxx1,hxx2,hxx3⟩:=at_T56 HR0.out x5_1 px1 qx1
     have hwx1:=hxx3
     have hwx2:=hxx2
     have hwx3:=hxx1
     cases ex1
     replace hxx1:=(HB.out.cell (World.block_lt_of_cell? w _ hxx1)).trans hxx1
     replace hxx2:=(HB.out.cell (World.block_lt_of_cell? w _ hxx2)).trans hxx2
     replace hxx3:=(HB.out.cell (World.block_lt_of_cell? w _ hxx3)).trans hxx3
     replace px1:=eq_true px1
     replace qx1:=eq_true qx1
     have px2:0≤(x5_1:Int):=of_decide_eq_true (by first | (with_reducible assumption) | assumption)
     have qx2:x5_1<(l1.length:Int):=of_decide_eq_true (by first | (with_reducible assumption) | assumption)
     obtain⟨adx2,ex2,hxx4,hxx5,hxx6⟩:=at_T56 HR1.out x5_1 px2 qx2
     have hwx4:=hxx6
     have hwx5:=hxx5
     have hwx6:=hxx4
     cases ex2
     replace hxx4:=(HB.out.cell (World.block_lt_of_cell? w _ hxx4)).trans hxx4
     replace hxx5:=(HB.out.cell (World.block_lt_of_cell? w _ hxx5)).trans hxx5
     replace hxx6:=(HB.out.cell (World.block_lt_of_cell? w _ hxx6)).trans hxx6
     replace px2:=eq_true px2
     replace qx2:=eq_true qx2
     refine start_ (n:=10) (S:=fun w'=>w'.cell? (adx1.add ((x5_1).toNat * 3))=some (.int .i64 ((rd_T56 l0 x5_1).f0))∧w'.cell? ⟨(adx1.add ((x5_1).toNat * 3)).block,(adx1.add ((x5_1).toNat * 3)).off+1,none⟩=some (.int .i64 ((rd_T56 l0 x5_1).f1))∧w'.cell? ⟨(adx1.add ((x5_1).toNat * 3)).block,(adx1.add ((x5_1).toNat * 3)).off+2,none⟩=some (.int .i64 ((rd_T56 l0 x5_1).f2))∧w'.cell? (adx2.add ((x5_1).toNat * 3))=some (.int .i64 ((rd_T56 l1 x5_1).f0))∧w'.cell? ⟨(adx2.add ((x5_1).toNat * 3)).block,(adx2.add ((x5_1).toNat * 3)).off+1,none⟩=some (.int .i64 ((rd_T56 l1 x5_1).f1))∧w'.cell? ⟨(adx2.add ((x5_1).toNat * 3)).block,(adx2.add ((x5_1).toNat * 3)).off+2,none⟩=some (.int .i64 ((rd_T56 l1 x5_1).f2))) (ds:=[]) (bm 10 0) (by kernel_rfl) rfl (by kernel_rfl) ⟨((HB.out.cell (World.block_lt_of_cell? w _ hwx3)).trans hwx3),((HB.out.cell (World.block_lt_of_cell? w _ hwx2)).trans hwx2),((HB.out.cell (World.block_lt_of_cell? w _ hwx1)).trans hwx1),((HB.out.cell (World.block_lt_of_cell? w _ hwx6)).trans hwx6),((HB.out.cell (World.block_lt_of_cell? w _ hwx5)).trans hwx5),((HB.out.cell (World.block_lt_of_cell? w _ hwx4)).trans hwx4)⟩ (fun hHeld => ?_);refine with_tabW Xm.tab6 Xm.bits6 (fun HT_ HW_ => ?_)
     generalize wr.drew=wx1 at HB hxx1 hxx2 hxx3 hxx4 hxx5 hxx6 hHeld ⊢
     refine pZ 0 17 (bm 10 1) HT_.out ?_
     refine pZ 1 18 (bm 10 3) HT_.out ?_
     refine pZ 2 19 (bm 10 7) HT_.out ?_
     refine pZ 4 21 (bm 10 23) HT_.out ?_
     refine pZ 5 22 (bm 10 55) HT_.out ?_
     refine pZ 6 23 (bm 10 119) HT_.out ?_
     refine tZ 3 20 (bm 10 127) HT_.out HW_.out hHeld ?_
     refine tZ 7 24 (bm 10 255) HT_.out HW_.out hHeld ?_
     by_cases c8:t103=true
     ·subst c8
      rw[if_pos rfl] at H
      have H':=Aside0.mk H
      clear H
      refine oZ 8 (some 25) (bm 10 511) HT_.out (fun K hK => ?_)
      refine goesN Try.func105 #[.agg #[.int .i64 ((rd_T56 l0 x5_1).f0),.int .i64 ((rd_T56 l0 x5_1).f1),.int .i64 ((rd_T56 l0 x5_1).f2)],.agg #[.int .i64 ((rd_T56 l1 x5_1).f0),.int .i64 ((rd_T56 l1 x5_1).f1),.int .i64 ((rd_T56 l1 x5_1).f2)]] ?_
      with_reducible refine(XV.calls ((rd_T56 l0 x5_1).f0) ((rd_T56 l0 x5_1).f1) ((rd_T56 l0 x5_1).f2) ((rd_T56 l1 x5_1).f0) ((rd_T56 l1 x5_1).f1) ((rd_T56 l1 x5_1).f2) true _ A7.out).mono ?_
      rintro e wx2 ⟨rfl,hb⟩
      refine⟨_,rfl,?_⟩
      replace HB:=Aside0.mk (below_step (hX HB.out) hb)
      (try clear hb)
      (try clear hb2)
      (try clear hk)
      (try clear hi)
      refine hK.out _ _ ⟨((HB.out.cell (World.block_lt_of_cell? w _ hwx3)).trans hwx3),((HB.out.cell (World.block_lt_of_cell? w _ hwx2)).trans hwx2),((HB.out.cell (World.block_lt_of_cell? w _ hwx1)).trans hwx1),((HB.out.cell (World.block_lt_of_cell? w _ hwx6)).trans hwx6),((HB.out.cell (World.block_lt_of_cell? w _ hwx5)).trans hwx5),((HB.out.cell (World.block_lt_of_cell? w _ hwx4)).trans hwx4)⟩ (fun hHeld => ?_)
      clear hK K
      refine nZ 25 ?_
      refine pZ 9 26 (bm 10 1023) HT_.out ?_
      refine done_ (done_of HT_.out (by kernel_rfl)) ?_
      try go_wp2
      go_roundg k1
      case measure=>have:=HKy1.out;omega
      case rel=>exact⟨(wrap64 (x5_1+1)),rS,H',⟨by have:=HKy1.out;omega⟩,⟨(hX HB.out)⟩⟩
     ·replace c8:=Bool.eq_false_iff.mpr c8
      subst c8
      rw[if_neg nft] at H
      obtain rfl:=Option.some.inj H
      refine oZ 8 (some 25) (bm 10 511) HT_.out (fun K hK => ?_)
      refine goesN Try.func105 #[.agg #[.int .i64 ((rd_T56 l0 x5_1).f0),.int .i64 ((rd_T56 l0 x5_1).f1),.int .i64 ((rd_T56 l0 x5_1).f2)],.agg #[.int .i64 ((rd_T56 l1 x5_1).f0),.int .i64 ((rd_T56 l1 x5_1).f1),.int .i64 ((rd_T56 l1 x5_1).f2)]] ?_
      with_reducible refine(XV.calls ((rd_T56 l0 x5_1).f0) ((rd_T56 l0 x5_1).f1) ((rd_T56 l0 x5_1).f2) ((rd_T56 l1 x5_1).f0) ((rd_T56 l1 x5_1).f1) ((rd_T56 l1 x5_1).f2) false _ A7.out).mono ?_
      rintro e wx2 ⟨rfl,hb⟩
      refine⟨_,rfl,?_⟩
      replace HB:=Aside0.mk (below_step (hX HB.out) hb)
      (try clear hb)
      (try clear hb2)
      (try clear hk)
      (try clear hi)
      refine hK.out _ _ ⟨((HB.out.cell (World.block_lt_of_cell? w _ hwx3)).trans hwx3),((HB.out.cell (World.block_lt_of_cell? w _ hwx2)).trans hwx2),((HB.out.cell (World.block_lt_of_cell? w _ hwx1)).trans hwx1),((HB.out.cell (World.block_lt_of_cell? w _ hwx6)).trans hwx6),((HB.out.cell (World.block_lt_of_cell? w _ hwx5)).trans hwx5),((HB.out.cell (World.block_lt_of_cell? w _ hwx4)).trans hwx4)⟩ (fun hHeld => ?_)
      clear hK K
      refine nZ 25 ?_
      refine pZ 9 26 (bm 10 1023) HT_.out ?_
      refine done_ (done_of HT_.out (by kernel_rfl)) ?_
      try go_wp2
      go_ret
      exact⟨rE,(hX HB.out)⟩
    ·rw[if_neg c4] at H
     have c4b0:=decide_eq_false c4
     clear c4
     obtain rfl:=Option.some.inj H
     go_wp2
     go_ret
     exact⟨rE,(hX HB.out)⟩
 ·rw[if_neg c3] at H
  obtain⟨c3b0,c3b1⟩:=eqF c3
  have c3b2:(l0.length == l1.length)=false:=by first | simpa using c3 | (simp at c3 ⊢;omega)
  obtain rfl:=Option.some.inj H
  go_wp2
  go_ret
  exact⟨rE,(hX HB.out)⟩
def Xe.l0:Nat→List (S187)→List (S187)→Int→Option (Bool)
 | 0,_,_,_=>none
 | k+1,x0,x1,x5=>if x5<(x0.length:Int) then (if 0≤x5 then (if x5<(x1.length:Int) then ((Xae.f ((rd_T187 x0 x5).f0) ((rd_T187 x0 x5).f1) ((rd_T187 x1 x5).f0) ((rd_T187 x1 x5).f1)).bind fun t103=>(if t103=true then (Xe.l0 k x0 x1 (wrap64 (x5+1))) else (some false))) else (none)) else (none)) else (some true)
def Xe.f (k:Nat) (l0:List (S187)) (l1:List (S187)):Option (Bool):=if (l0.length:Int)=(l1.length:Int) then (Xe.l0 k l0 l1 0) else (some false)
def Xe.T6:Bool × List (List Nat × List Nat):=(true,[([],[]),([],[]),([0,1],[0,1]),([2],[2]),([],[]),([],[]),([4,5],[4,5]),([6],[6]),([3,7],[3,7]),([8],[8])])
def Xe.B6:List Nat:=[0,0,3,7,0,0,48,112,255,511]
theorem Xe.tab6:rtab .any (opsOf Try.f172 6)=Xe.T6:=by kernel_rfl
theorem Xe.bits6:waitsOk Xe.T6.2 Xe.B6=true:=by kernel_rfl
theorem Xe.calls (k:Nat) (A0:Option Addr) (c0:Nat) (l0:List (S187)) (A1:Option Addr) (c1:Nat) (l1:List (S187)) (r:Bool) (w:World) (hr0:Kd.C k187 w A0 l0.length l0) (hc0:l0.length≤c0) (hr1:Kd.C k187 w A1 l1.length l1) (hc1:l1.length≤c1) (h:Xe.f k l0 l1=some r) :
  Calls Try.prog 172 #[.slice A0 l0.length c0,.slice A1 l1.length c1] w fun e w'=>e = .returned (.bool r)∧Below w.heap.size w w':=by
 have hu187:=Try.underlying187
 have HR0:=Aside0.mk hr0
 have HC0:=Aside0.mk hc0
 clear hr0 hc0
 have HR1:=Aside0.mk hr1
 have HC1:=Aside0.mk hc1
 clear hr1 hc1
 have HB:=Aside0.mk (Below.refl w.heap.size w)
 have H:=h
 unfold Xe.f at H
 clear h
 go_enter Try.func172,Try.ntmps172
 by_cases c3:(l0.length:Int)=(l1.length:Int)
 ·rw[if_pos c3] at H
  obtain⟨c3b0,c3b1⟩:=eqT c3
  have c3b2:(l0.length == l1.length)=true:=by first | simpa using c3 | (simp at c3 ⊢;omega)
  clear c3
  have H':=Aside0.mk H
  clear H
  go_wp2
  go_loopg [5] k (fun kq v5 w'=>∃ (x5_1:Int),v5 = .int .i64 x5_1∧Aside0 (Xe.l0 kq l0 l1 x5_1=some r)∧Aside0 (kq≤k)∧Aside0 (Below w.heap.size w w'))
  case atStart=>exact⟨(0),rS,H',⟨Nat.le_refl _⟩,⟨(hX HB.out)⟩⟩
  case round =>
   clear H'
   try clear c1
   try clear p2
   try clear c3
   try clear c3b0
   try clear c3b1
   try clear c3b2
   obtain⟨x5_1,rfl,HA,HKy1,HB⟩:=hrel
   cases gk with
   | zero=>exact absurd HA.out (by simp[Xe.l0])
   | succ k1 =>
    have H:=HA.out
    clear HA
    simp only[Xe.l0] at H
    by_cases c4:x5_1<(l0.length:Int)
    ·rw[if_pos c4] at H
     have c4b0:=decide_eq_true c4
     clear c4
     replace H:=ifP H;obtain⟨c5,H⟩:=H
     have c5b0:=decide_eq_true c5
     clear c5
     replace H:=ifP H;obtain⟨c6,H⟩:=H
     have c6b0:=decide_eq_true c6
     clear c6
     replace H:=bE H;obtain⟨t103,A7,H⟩:=H
     try go_wp2
     replace HB:=Aside0.mk (below_drew1 HB.out)
     have px1:0≤(x5_1:Int):=of_decide_eq_true (by first | (with_reducible assumption) | assumption)
     have qx1:x5_1<(l0.length:Int):=of_decide_eq_true (by first | (with_reducible assumption) | assumption)
     obtain⟨adx1,ex1,hxx1,hxx2⟩:=at_T187 HR0.out x5_1 px1 qx1
     have hwx1:=hxx2
     have hwx2:=hxx1
     cases ex1
     replace hxx1:=(HB.out.cell (World.block_lt_of_cell? w _ hxx1)).trans hxx1
     replace hxx2:=(HB.out.cell (World.block_lt_of_cell? w _ hxx2)).trans hxx2
     replace px1:=eq_true px1
     replace qx1:=eq_true qx1
     have px2:0≤(x5_1:Int):=of_decide_eq_true (by first | (with_reducible assumption) | assumption)
     have qx2:x5_1<(l1.length:Int):=of_decide_eq_true (by first | (with_reducible assumption) | assumption)
     obtain⟨adx2,ex2,hxx3,hxx4⟩:=at_T187 HR1.out x5_1 px2 qx2
     have hwx3:=hxx4
     have hwx4:=hxx3
     cases ex2
     replace hxx3:=(HB.out.cell (World.block_lt_of_cell? w _ hxx3)).trans hxx3
     replace hxx4:=(HB.out.cell (World.block_lt_of_cell? w _ hxx4)).trans hxx4
     replace px2:=eq_true px2
     replace qx2:=eq_true qx2
     refine start_ (n:=10) (S:=fun w'=>w'.cell? (adx1.add ((x5_1).toNat * 2))=some (.int .i64 ((rd_T187 l0 x5_1).f0))∧w'.cell? ⟨(adx1.add ((x5_1).toNat * 2)).block,(adx1.add ((x5_1).toNat * 2)).off+1,none⟩=some (.int .i64 ((rd_T187 l0 x5_1).f1))∧w'.cell? (adx2.add ((x5_1).toNat * 2))=some (.int .i64 ((rd_T187 l1 x5_1).f0))∧w'.cell? ⟨(adx2.add ((x5_1).toNat * 2)).block,(adx2.add ((x5_1).toNat * 2)).off+1,none⟩=some (.int .i64 ((rd_T187 l1 x5_1).f1))) (ds:=[]) (bm 10 0) (by kernel_rfl) rfl (by kernel_rfl) ⟨((HB.out.cell (World.block_lt_of_cell? w _ hwx2)).trans hwx2),((HB.out.cell (World.block_lt_of_cell? w _ hwx1)).trans hwx1),((HB.out.cell (World.block_lt_of_cell? w _ hwx4)).trans hwx4),((HB.out.cell (World.block_lt_of_cell? w _ hwx3)).trans hwx3)⟩ (fun hHeld => ?_);refine with_tabW Xe.tab6 Xe.bits6 (fun HT_ HW_ => ?_)
     generalize wr.drew=wx1 at HB hxx1 hxx2 hxx3 hxx4 hHeld ⊢
     refine pZ 0 17 (bm 10 1) HT_.out ?_
     refine pZ 1 18 (bm 10 3) HT_.out ?_
     refine pZ 2 19 (bm 10 7) HT_.out ?_
     refine pZ 4 21 (bm 10 23) HT_.out ?_
     refine pZ 5 22 (bm 10 55) HT_.out ?_
     refine pZ 6 23 (bm 10 119) HT_.out ?_
     refine tZ 3 20 (bm 10 127) HT_.out HW_.out hHeld ?_
     refine tZ 7 24 (bm 10 255) HT_.out HW_.out hHeld ?_
     by_cases c8:t103=true
     ·subst c8
      rw[if_pos rfl] at H
      have H':=Aside0.mk H
      clear H
      refine oZ 8 (some 25) (bm 10 511) HT_.out (fun K hK => ?_)
      refine goesN Try.func183 #[.agg #[.int .i64 ((rd_T187 l0 x5_1).f0),.int .i64 ((rd_T187 l0 x5_1).f1)],.agg #[.int .i64 ((rd_T187 l1 x5_1).f0),.int .i64 ((rd_T187 l1 x5_1).f1)]] ?_
      with_reducible refine(Xae.calls ((rd_T187 l0 x5_1).f0) ((rd_T187 l0 x5_1).f1) ((rd_T187 l1 x5_1).f0) ((rd_T187 l1 x5_1).f1) true _ A7.out).mono ?_
      rintro e wx2 ⟨rfl,hb⟩
      refine⟨_,rfl,?_⟩
      replace HB:=Aside0.mk (below_step (hX HB.out) hb)
      (try clear hb)
      (try clear hb2)
      (try clear hk)
      (try clear hi)
      refine hK.out _ _ ⟨((HB.out.cell (World.block_lt_of_cell? w _ hwx2)).trans hwx2),((HB.out.cell (World.block_lt_of_cell? w _ hwx1)).trans hwx1),((HB.out.cell (World.block_lt_of_cell? w _ hwx4)).trans hwx4),((HB.out.cell (World.block_lt_of_cell? w _ hwx3)).trans hwx3)⟩ (fun hHeld => ?_)
      clear hK K
      refine nZ 25 ?_
      refine pZ 9 26 (bm 10 1023) HT_.out ?_
      refine done_ (done_of HT_.out (by kernel_rfl)) ?_
      try go_wp2
      go_roundg k1
      case measure=>have:=HKy1.out;omega
      case rel=>exact⟨(wrap64 (x5_1+1)),rS,H',⟨by have:=HKy1.out;omega⟩,⟨(hX HB.out)⟩⟩
     ·replace c8:=Bool.eq_false_iff.mpr c8
      subst c8
      rw[if_neg nft] at H
      obtain rfl:=Option.some.inj H
      refine oZ 8 (some 25) (bm 10 511) HT_.out (fun K hK => ?_)
      refine goesN Try.func183 #[.agg #[.int .i64 ((rd_T187 l0 x5_1).f0),.int .i64 ((rd_T187 l0 x5_1).f1)],.agg #[.int .i64 ((rd_T187 l1 x5_1).f0),.int .i64 ((rd_T187 l1 x5_1).f1)]] ?_
      with_reducible refine(Xae.calls ((rd_T187 l0 x5_1).f0) ((rd_T187 l0 x5_1).f1) ((rd_T187 l1 x5_1).f0) ((rd_T187 l1 x5_1).f1) false _ A7.out).mono ?_
      rintro e wx2 ⟨rfl,hb⟩
      refine⟨_,rfl,?_⟩
      replace HB:=Aside0.mk (below_step (hX HB.out) hb)
      (try clear hb)
      (try clear hb2)
      (try clear hk)
      (try clear hi)
      refine hK.out _ _ ⟨((HB.out.cell (World.block_lt_of_cell? w _ hwx2)).trans hwx2),((HB.out.cell (World.block_lt_of_cell? w _ hwx1)).trans hwx1),((HB.out.cell (World.block_lt_of_cell? w _ hwx4)).trans hwx4),((HB.out.cell (World.block_lt_of_cell? w _ hwx3)).trans hwx3)⟩ (fun hHeld => ?_)
      clear hK K
      refine nZ 25 ?_
      refine pZ 9 26 (bm 10 1023) HT_.out ?_
      refine done_ (done_of HT_.out (by kernel_rfl)) ?_
      try go_wp2
      go_ret
      exact⟨rE,(hX HB.out)⟩
    ·rw[if_neg c4] at H
     have c4b0:=decide_eq_false c4
     clear c4
     obtain rfl:=Option.some.inj H
     go_wp2
     go_ret
     exact⟨rE,(hX HB.out)⟩
 ·rw[if_neg c3] at H
  obtain⟨c3b0,c3b1⟩:=eqF c3
  have c3b2:(l0.length == l1.length)=false:=by first | simpa using c3 | (simp at c3 ⊢;omega)
  obtain rfl:=Option.some.inj H
  go_wp2
  go_ret
  exact⟨rE,(hX HB.out)⟩
def Xf.l0:Nat→List (S189)→List (S189)→Int→Option (Bool)
 | 0,_,_,_=>none
 | k+1,x0,x1,x5=>if x5<(x0.length:Int) then (if 0≤x5 then (if x5<(x1.length:Int) then ((Xaf.f ((rd_T189 x0 x5).f0) ((rd_T189 x0 x5).f1) ((rd_T189 x0 x5).f2) ((rd_T189 x0 x5).f3) ((rd_T189 x1 x5).f0) ((rd_T189 x1 x5).f1) ((rd_T189 x1 x5).f2) ((rd_T189 x1 x5).f3)).bind fun t103=>(if t103=true then (Xf.l0 k x0 x1 (wrap64 (x5+1))) else (some false))) else (none)) else (none)) else (some true)
def Xf.f (k:Nat) (l0:List (S189)) (l1:List (S189)):Option (Bool):=if (l0.length:Int)=(l1.length:Int) then (Xf.l0 k l0 l1 0) else (some false)
def Xf.T6:Bool × List (List Nat × List Nat):=(true,[([],[]),([],[]),([0,1],[0,1]),([2],[2]),([],[]),([],[]),([4,5],[4,5]),([6],[6]),([3,7],[3,7]),([8],[8])])
def Xf.B6:List Nat:=[0,0,3,7,0,0,48,112,255,511]
theorem Xf.tab6:rtab .any (opsOf Try.f173 6)=Xf.T6:=by kernel_rfl
theorem Xf.bits6:waitsOk Xf.T6.2 Xf.B6=true:=by kernel_rfl
theorem Xf.calls (k:Nat) (A0:Option Addr) (c0:Nat) (l0:List (S189)) (A1:Option Addr) (c1:Nat) (l1:List (S189)) (r:Bool) (w:World) (hr0:Kd.C k189 w A0 l0.length l0) (hc0:l0.length≤c0) (hr1:Kd.C k189 w A1 l1.length l1) (hc1:l1.length≤c1) (h:Xf.f k l0 l1=some r) :
  Calls Try.prog 173 #[.slice A0 l0.length c0,.slice A1 l1.length c1] w fun e w'=>e = .returned (.bool r)∧Below w.heap.size w w':=by
 have hu189:=Try.underlying189
 have HR0:=Aside0.mk hr0
 have HC0:=Aside0.mk hc0
 clear hr0 hc0
 have HR1:=Aside0.mk hr1
 have HC1:=Aside0.mk hc1
 clear hr1 hc1
 have HB:=Aside0.mk (Below.refl w.heap.size w)
 have H:=h
 unfold Xf.f at H
 clear h
 go_enter Try.func173,Try.ntmps173
 by_cases c3:(l0.length:Int)=(l1.length:Int)
 ·rw[if_pos c3] at H
  obtain⟨c3b0,c3b1⟩:=eqT c3
  have c3b2:(l0.length == l1.length)=true:=by first | simpa using c3 | (simp at c3 ⊢;omega)
  clear c3
  have H':=Aside0.mk H
  clear H
  go_wp2
  go_loopg [5] k (fun kq v5 w'=>∃ (x5_1:Int),v5 = .int .i64 x5_1∧Aside0 (Xf.l0 kq l0 l1 x5_1=some r)∧Aside0 (kq≤k)∧Aside0 (Below w.heap.size w w'))
  case atStart=>exact⟨(0),rS,H',⟨Nat.le_refl _⟩,⟨(hX HB.out)⟩⟩
  case round =>
   clear H'
   try clear c1
   try clear p2
   try clear c3
   try clear c3b0
   try clear c3b1
   try clear c3b2
   obtain⟨x5_1,rfl,HA,HKy1,HB⟩:=hrel
   cases gk with
   | zero=>exact absurd HA.out (by simp[Xf.l0])
   | succ k1 =>
    have H:=HA.out
    clear HA
    simp only[Xf.l0] at H
    by_cases c4:x5_1<(l0.length:Int)
    ·rw[if_pos c4] at H
     have c4b0:=decide_eq_true c4
     clear c4
     replace H:=ifP H;obtain⟨c5,H⟩:=H
     have c5b0:=decide_eq_true c5
     clear c5
     replace H:=ifP H;obtain⟨c6,H⟩:=H
     have c6b0:=decide_eq_true c6
     clear c6
     replace H:=bE H;obtain⟨t103,A7,H⟩:=H
     try go_wp2
     replace HB:=Aside0.mk (below_drew1 HB.out)
     have px1:0≤(x5_1:Int):=of_decide_eq_true (by first | (with_reducible assumption) | assumption)
     have qx1:x5_1<(l0.length:Int):=of_decide_eq_true (by first | (with_reducible assumption) | assumption)
     obtain⟨adx1,ex1,hxx1,hxx2,hxx3,hxx4⟩:=at_T189 HR0.out x5_1 px1 qx1
     have hwx1:=hxx4
     have hwx2:=hxx3
     have hwx3:=hxx2
     have hwx4:=hxx1
     cases ex1
     replace hxx1:=(HB.out.cell (World.block_lt_of_cell? w _ hxx1)).trans hxx1
     replace hxx2:=(HB.out.cell (World.block_lt_of_cell? w _ hxx2)).trans hxx2
     replace hxx3:=(HB.out.cell (World.block_lt_of_cell? w _ hxx3)).trans hxx3
     replace hxx4:=(HB.out.cell (World.block_lt_of_cell? w _ hxx4)).trans hxx4
     replace px1:=eq_true px1
     replace qx1:=eq_true qx1
     have px2:0≤(x5_1:Int):=of_decide_eq_true (by first | (with_reducible assumption) | assumption)
     have qx2:x5_1<(l1.length:Int):=of_decide_eq_true (by first | (with_reducible assumption) | assumption)
     obtain⟨adx2,ex2,hxx5,hxx6,hxx7,hxx8⟩:=at_T189 HR1.out x5_1 px2 qx2
     have hwx5:=hxx8
     have hwx6:=hxx7
     have hwx7:=hxx6
     have hwx8:=hxx5
     cases ex2
     replace hxx5:=(HB.out.cell (World.block_lt_of_cell? w _ hxx5)).trans hxx5
     replace hxx6:=(HB.out.cell (World.block_lt_of_cell? w _ hxx6)).trans hxx6
     replace hxx7:=(HB.out.cell (World.block_lt_of_cell? w _ hxx7)).trans hxx7
     replace hxx8:=(HB.out.cell (World.block_lt_of_cell? w _ hxx8)).trans hxx8
     replace px2:=eq_true px2
     replace qx2:=eq_true qx2
     refine start_ (n:=10) (S:=fun w'=>w'.cell? (adx1.add ((x5_1).toNat * 4))=some (.int .i64 ((rd_T189 l0 x5_1).f0))∧w'.cell? ⟨(adx1.add ((x5_1).toNat * 4)).block,(adx1.add ((x5_1).toNat * 4)).off+1,none⟩=some (.int .i64 ((rd_T189 l0 x5_1).f1))∧w'.cell? ⟨(adx1.add ((x5_1).toNat * 4)).block,(adx1.add ((x5_1).toNat * 4)).off+2,none⟩=some (.int .i64 ((rd_T189 l0 x5_1).f2))∧w'.cell? ⟨(adx1.add ((x5_1).toNat * 4)).block,(adx1.add ((x5_1).toNat * 4)).off+3,none⟩=some (.int .i64 ((rd_T189 l0 x5_1).f3))∧w'.cell? (adx2.add ((x5_1).toNat * 4))=some (.int .i64 ((rd_T189 l1 x5_1).f0))∧w'.cell? ⟨(adx2.add ((x5_1).toNat * 4)).block,(adx2.add ((x5_1).toNat * 4)).off+1,none⟩=some (.int .i64 ((rd_T189 l1 x5_1).f1))∧w'.cell? ⟨(adx2.add ((x5_1).toNat * 4)).block,(adx2.add ((x5_1).toNat * 4)).off+2,none⟩=some (.int .i64 ((rd_T189 l1 x5_1).f2))∧w'.cell? ⟨(adx2.add ((x5_1).toNat * 4)).block,(adx2.add ((x5_1).toNat * 4)).off+3,none⟩=some (.int .i64 ((rd_T189 l1 x5_1).f3))) (ds:=[]) (bm 10 0) (by kernel_rfl) rfl (by kernel_rfl) ⟨((HB.out.cell (World.block_lt_of_cell? w _ hwx4)).trans hwx4),((HB.out.cell (World.block_lt_of_cell? w _ hwx3)).trans hwx3),((HB.out.cell (World.block_lt_of_cell? w _ hwx2)).trans hwx2),((HB.out.cell (World.block_lt_of_cell? w _ hwx1)).trans hwx1),((HB.out.cell (World.block_lt_of_cell? w _ hwx8)).trans hwx8),((HB.out.cell (World.block_lt_of_cell? w _ hwx7)).trans hwx7),((HB.out.cell (World.block_lt_of_cell? w _ hwx6)).trans hwx6),((HB.out.cell (World.block_lt_of_cell? w _ hwx5)).trans hwx5)⟩ (fun hHeld => ?_);refine with_tabW Xf.tab6 Xf.bits6 (fun HT_ HW_ => ?_)
     generalize wr.drew=wx1 at HB hxx1 hxx2 hxx3 hxx4 hxx5 hxx6 hxx7 hxx8 hHeld ⊢
     refine pZ 0 17 (bm 10 1) HT_.out ?_
     refine pZ 1 18 (bm 10 3) HT_.out ?_
     refine pZ 2 19 (bm 10 7) HT_.out ?_
     refine pZ 4 21 (bm 10 23) HT_.out ?_
     refine pZ 5 22 (bm 10 55) HT_.out ?_
     refine pZ 6 23 (bm 10 119) HT_.out ?_
     refine tZ 3 20 (bm 10 127) HT_.out HW_.out hHeld ?_
     refine tZ 7 24 (bm 10 255) HT_.out HW_.out hHeld ?_
     by_cases c8:t103=true
     ·subst c8
      rw[if_pos rfl] at H
      have H':=Aside0.mk H
      clear H
      refine oZ 8 (some 25) (bm 10 511) HT_.out (fun K hK => ?_)
      refine goesN Try.func184 #[.agg #[.int .i64 ((rd_T189 l0 x5_1).f0),.int .i64 ((rd_T189 l0 x5_1).f1),.int .i64 ((rd_T189 l0 x5_1).f2),.int .i64 ((rd_T189 l0 x5_1).f3)],.agg #[.int .i64 ((rd_T189 l1 x5_1).f0),.int .i64 ((rd_T189 l1 x5_1).f1),.int .i64 ((rd_T189 l1 x5_1).f2),.int .i64 ((rd_T189 l1 x5_1).f3)]] ?_
      with_reducible refine(Xaf.calls ((rd_T189 l0 x5_1).f0) ((rd_T189 l0 x5_1).f1) ((rd_T189 l0 x5_1).f2) ((rd_T189 l0 x5_1).f3) ((rd_T189 l1 x5_1).f0) ((rd_T189 l1 x5_1).f1) ((rd_T189 l1 x5_1).f2) ((rd_T189 l1 x5_1).f3) true _ A7.out).mono ?_
      rintro e wx2 ⟨rfl,hb⟩
      refine⟨_,rfl,?_⟩
      replace HB:=Aside0.mk (below_step (hX HB.out) hb)
      (try clear hb)
      (try clear hb2)
      (try clear hk)
      (try clear hi)
      refine hK.out _ _ ⟨((HB.out.cell (World.block_lt_of_cell? w _ hwx4)).trans hwx4),((HB.out.cell (World.block_lt_of_cell? w _ hwx3)).trans hwx3),((HB.out.cell (World.block_lt_of_cell? w _ hwx2)).trans hwx2),((HB.out.cell (World.block_lt_of_cell? w _ hwx1)).trans hwx1),((HB.out.cell (World.block_lt_of_cell? w _ hwx8)).trans hwx8),((HB.out.cell (World.block_lt_of_cell? w _ hwx7)).trans hwx7),((HB.out.cell (World.block_lt_of_cell? w _ hwx6)).trans hwx6),((HB.out.cell (World.block_lt_of_cell? w _ hwx5)).trans hwx5)⟩ (fun hHeld => ?_)
      clear hK K
      refine nZ 25 ?_
      refine pZ 9 26 (bm 10 1023) HT_.out ?_
      refine done_ (done_of HT_.out (by kernel_rfl)) ?_
      try go_wp2
      go_roundg k1
      case measure=>have:=HKy1.out;omega
      case rel=>exact⟨(wrap64 (x5_1+1)),rS,H',⟨by have:=HKy1.out;omega⟩,⟨(hX HB.out)⟩⟩
     ·replace c8:=Bool.eq_false_iff.mpr c8
      subst c8
      rw[if_neg nft] at H
      obtain rfl:=Option.some.inj H
      refine oZ 8 (some 25) (bm 10 511) HT_.out (fun K hK => ?_)
      refine goesN Try.func184 #[.agg #[.int .i64 ((rd_T189 l0 x5_1).f0),.int .i64 ((rd_T189 l0 x5_1).f1),.int .i64 ((rd_T189 l0 x5_1).f2),.int .i64 ((rd_T189 l0 x5_1).f3)],.agg #[.int .i64 ((rd_T189 l1 x5_1).f0),.int .i64 ((rd_T189 l1 x5_1).f1),.int .i64 ((rd_T189 l1 x5_1).f2),.int .i64 ((rd_T189 l1 x5_1).f3)]] ?_
      with_reducible refine(Xaf.calls ((rd_T189 l0 x5_1).f0) ((rd_T189 l0 x5_1).f1) ((rd_T189 l0 x5_1).f2) ((rd_T189 l0 x5_1).f3) ((rd_T189 l1 x5_1).f0) ((rd_T189 l1 x5_1).f1) ((rd_T189 l1 x5_1).f2) ((rd_T189 l1 x5_1).f3) false _ A7.out).mono ?_
      rintro e wx2 ⟨rfl,hb⟩
      refine⟨_,rfl,?_⟩
      replace HB:=Aside0.mk (below_step (hX HB.out) hb)
      (try clear hb)
      (try clear hb2)
      (try clear hk)
      (try clear hi)
      refine hK.out _ _ ⟨((HB.out.cell (World.block_lt_of_cell? w _ hwx4)).trans hwx4),((HB.out.cell (World.block_lt_of_cell? w _ hwx3)).trans hwx3),((HB.out.cell (World.block_lt_of_cell? w _ hwx2)).trans hwx2),((HB.out.cell (World.block_lt_of_cell? w _ hwx1)).trans hwx1),((HB.out.cell (World.block_lt_of_cell? w _ hwx8)).trans hwx8),((HB.out.cell (World.block_lt_of_cell? w _ hwx7)).trans hwx7),((HB.out.cell (World.block_lt_of_cell? w _ hwx6)).trans hwx6),((HB.out.cell (World.block_lt_of_cell? w _ hwx5)).trans hwx5)⟩ (fun hHeld => ?_)
      clear hK K
      refine nZ 25 ?_
      refine pZ 9 26 (bm 10 1023) HT_.out ?_
      refine done_ (done_of HT_.out (by kernel_rfl)) ?_
      try go_wp2
      go_ret
      exact⟨rE,(hX HB.out)⟩
    ·rw[if_neg c4] at H
     have c4b0:=decide_eq_false c4
     clear c4
     obtain rfl:=Option.some.inj H
     go_wp2
     go_ret
     exact⟨rE,(hX HB.out)⟩
 ·rw[if_neg c3] at H
  obtain⟨c3b0,c3b1⟩:=eqF c3
  have c3b2:(l0.length == l1.length)=false:=by first | simpa using c3 | (simp at c3 ⊢;omega)
  obtain rfl:=Option.some.inj H
  go_wp2
  go_ret
  exact⟨rE,(hX HB.out)⟩
def X1.f (k:Nat) (l0_0:List Int) (a0_1:Int) (l1_0:List Int) (a1_1:Int):Option (Bool):=(Xp.f k l0_0 l1_0).bind fun t103=>(if t103=true then (if a0_1=a1_1 then (some true) else (some false)) else (some false))
theorem X1.calls (k:Nat) (A0_0:Option Addr) (c0_0:Nat) (l0_0:List Int) (a0_1:Int) (A1_0:Option Addr) (c1_0:Nat) (l1_0:List Int) (a1_1:Int) (r:Bool) (w:World) (hr0_0:Kd.C (Kd.int .i64) w A0_0 l0_0.length l0_0) (hc0_0:l0_0.length≤c0_0) (hr1_0:Kd.C (Kd.int .i64) w A1_0 l1_0.length l1_0) (hc1_0:l1_0.length≤c1_0) (h:X1.f k l0_0 a0_1 l1_0 a1_1=some r) :
  Calls Try.prog 16 #[.agg #[.slice A0_0 l0_0.length c0_0,.int .i64 a0_1],.agg #[.slice A1_0 l1_0.length c1_0,.int .i64 a1_1]] w fun e w'=>e = .returned (.bool r)∧Below w.heap.size w w':=by
 have hu24:=Try.underlying24
 have HR0_0:=Aside0.mk hr0_0
 have HC0_0:=Aside0.mk hc0_0
 clear hr0_0 hc0_0
 have HR1_0:=Aside0.mk hr1_0
 have HC1_0:=Aside0.mk hc1_0
 clear hr1_0 hc1_0
 have HB:=Aside0.mk (Below.refl w.heap.size w)
 have H:=h
 unfold X1.f at H
 clear h
 replace H:=bE H;obtain⟨t103,A3,H⟩:=H
 go_enter Try.func16,Try.ntmps16
 go_wp2_with (first | ((with_reducible refine gate_dst (N:=2) rfl ?_);refine boxE 2 #[.slice A0_0 l0_0.length c0_0,.int .i64 a0_1] 24 ?_;intro gbz1 hg wz1 hbox hb;have BKz1:=Aside0.mk (hbox);have GWz1:=Aside0.mk (gX' hg (hX HB.out));have GEz1:=Aside0.mk (gX' hg (hX HB.out));replace HB:=Aside0.mk (below_step (hX HB.out) hb);clear hb hbox hg) | ((with_reducible refine gate_dst (N:=3) rfl ?_);refine boxE 3 #[.slice A1_0 l1_0.length c1_0,.int .i64 a1_1] 24 ?_;intro gbz2 hg wz2 hbox hb;have BKz2:=Aside0.mk (hbox);have GWz2:=Aside0.mk (gX' hg (hX HB.out));have GEz2:=Aside0.mk (gX' hg (hX HB.out));have NBz1:=Aside0.mk (gL hg (bX BKz1.out));have NBz2:=Aside0.mk (gG hg (bX BKz1.out));replace BKz1:=Aside0.mk (blk_below (bX BKz1.out) hb);replace HB:=Aside0.mk (below_step (hX HB.out) hb);clear hb hbox hg;have hnbz1:=NBz1.out;have hncz1:=NBz2.out;obtain⟨hczz1,hczz2,hfzz1,hfzz2⟩:=cZ2 BKz1.out;obtain⟨hczz3,hczz4,hfzz3,hfzz4⟩:=cZ2 BKz2.out;refine Stop.out ?_))
 refine⟨?_⟩
 by_cases c4:t103=true
 ·subst c4
  rw[if_pos rfl] at H
  go_wp2_with (first | ((with_reducible refine gate_callee (f:=17) rfl ?_);refine goesM 17 9 Try.func17 #[.slice A0_0 l0_0.length c0_0,.slice A1_0 l1_0.length c1_0] ?_;refine(Xp.calls k _ _ l0_0 _ _ l1_0 true _ (cC HR0_0.out HB.out) HC0_0.out (cC HR1_0.out HB.out) HC1_0.out A3.out).mono ?_;rintro e w' ⟨rfl,⟨nd,rfl⟩⟩;refine⟨_,rfl,?_⟩;refine Stop.out ?_))
  refine⟨?_⟩
  by_cases c5:a0_1=a1_1
  ·rw[if_pos c5] at H
   obtain⟨c5b0,c5b1⟩:=eqT c5
   clear c5
   obtain rfl:=Option.some.inj H
   go_wp2
   go_ret
   exact⟨rE,(hX HB.out)⟩
  ·rw[if_neg c5] at H
   obtain⟨c5b0,c5b1⟩:=eqF c5
   obtain rfl:=Option.some.inj H
   go_wp2
   go_ret
   exact⟨rE,(hX HB.out)⟩
 ·replace c4:=Bool.eq_false_iff.mpr c4
  subst c4
  rw[if_neg nft] at H
  obtain rfl:=Option.some.inj H
  go_wp2_with (first | ((with_reducible refine gate_callee (f:=17) rfl ?_);refine goesM 17 9 Try.func17 #[.slice A0_0 l0_0.length c0_0,.slice A1_0 l1_0.length c1_0] ?_;refine(Xp.calls k _ _ l0_0 _ _ l1_0 false _ (cC HR0_0.out HB.out) HC0_0.out (cC HR1_0.out HB.out) HC1_0.out A3.out).mono ?_;rintro e w' ⟨rfl,⟨nd,rfl⟩⟩;refine⟨_,rfl,?_⟩))
  go_ret
  exact⟨rE,(hX HB.out)⟩
end Go.Proofs.Yteamagejhbkhnaa.P
namespace Go.Proofs.YteamagejhbkhnaaZ
open Go.RowKit Go.Proofs.YteamagejhbkhnaaW.PrintWords Go.Proofs.YteamagejhbkhnaaW.PrintLast Go.Proofs.YteamagejhbkhnaaW.PrintMore
abbrev fr (W : World) : World → Prop := fun w' => Below W.heap.size W w'
section
variable {P : Program} {ops : Array Oper} {Q : Exit → Act → World → Prop} {md : Region.Mode} {ds : List Nat} {T : Bool × List (List Nat × List Nat)} {B : List Nat} {oi : Oper} {v : Value} {fuel n k N : Nat} {a a' : Act} {w W : World}
variable {f : FuncId} {fn : Func} {as_ : Array Operand} {ts : Array TypeId} {args : Array Value}
end
section
variable {P : Program} {ops : Array Oper} {rest : List Oper} {o : Oper} {a : Act} {Q : Exit → Act → World → Prop} {W : World} {fn : Func} {as_ : Array Operand} {ts : Array TypeId} {args : Array Value} {v : Value}
theorem gB (f : FuncId) (N : Tmp) (hf : P.funcs[f]? = some fn) (c : Calls P f args W fun e w' => e = .returned v ∧ Below W.heap.size W w') (h : ∀ w', Below W.heap.size W w' → wpList P ops Q rest (a.put (some N) v) w')
    (hop : o.op = .call { callee := .value (.func f), args := as_, argTypes := ts } := by with_reducible rfl) (hd : o.dst = some N := by rfl) (hg : o.guard = none := by rfl)
    (hname : (fn.name == "runtime.NumGoroutine") = false := by kernel_rfl) (hb : fn.body.isSome = true := by rfl)
    (hargs : as_.map a.eval = args := by (try simp only [List.map_toArray, List.map_cons, List.map_nil]); first | done | rfl | (simp only [List.length_drop, List.length_take]; rfl)) : wpList P ops Q (o :: rest) a W :=
  goesL_ (some N) hd hg hf hname hb args hop hargs (c.mono fun _ w' ⟨he, hb'⟩ => ⟨v, he, h w' hb'⟩)
theorem gD (f : FuncId) (N : Tmp) (hf : P.funcs[f]? = some fn) (c : Calls P f args W fun e w' => e = .returned v ∧ Drawn0 W w') (h : ∀ n_, wpList P ops Q rest (a.put (some N) v) (W.drewN n_))
    (hop : o.op = .call { callee := .value (.func f), args := as_, argTypes := ts } := by with_reducible rfl) (hd : o.dst = some N := by rfl) (hg : o.guard = none := by rfl)
    (hname : (fn.name == "runtime.NumGoroutine") = false := by kernel_rfl) (hb : fn.body.isSome = true := by rfl)
    (hargs : as_.map a.eval = args := by (try simp only [List.map_toArray, List.map_cons, List.map_nil]); first | done | rfl | (simp only [List.length_drop, List.length_take]; rfl)) : wpList P ops Q (o :: rest) a W :=
  goesL_ (some N) hd hg hf hname hb args hop hargs (c.mono fun _ _ ⟨he, hb'⟩ => by
    obtain ⟨n_, rfl⟩ := hb'
    exact ⟨v, he, h n_⟩)
end
section
variable {w : World} {g : Nat} {t : TypeId}
end
end Go.Proofs.YteamagejhbkhnaaZ
namespace Go.Proofs.Yteamagejhbkhnaa.P
open Go.Proofs.YteamagejhbkhnaaZ Go.RowKit Go.Proofs.YteamagejhbkhnaaW.PrintWords Go.Proofs.YteamagejhbkhnaaW.PrintLast Go.Proofs.YteamagejhbkhnaaW.PrintMore
attribute [local go_sem] max2_int min2_int max_two min_two max_three min_three max_four min_four   -- for this text's walks alone
def X7.f (k:Nat) (l0_0:List Int) (a0_1:Int) (a1:Int):Option (Int × List Int):=(Xh.f k l0_0 a1).bind fun bt102=>(some (bt102.1,bt102.2))
theorem X7.calls (k:Nat) (P0_0_:Nat→Prop) (u9000_:Value) (l0_0:List Int) (a0_1:Int) (a1:Int) (r1:Int) (r2:List Int) (w0 w:World) (hB:Below w0.heap.size w0 w) (ho0_0:Kd.R (Kd.int .i64) 3 w w0.heap.size P0_0_ u9000_ l0_0) (h:X7.f k l0_0 a0_1 a1=some (r1,r2)) :
  Calls Try.prog 19 #[.agg #[u9000_,.int .i64 a0_1],.int .i64 a1] w fun e w'=>e = .returned (.int .i64 r1)∧Kd.R (Kd.int .i64) 3 w' w0.heap.size (fun k_=>(P0_0_ k_ ∨ w.heap.size≤k_)) u9000_ r2∧Below w0.heap.size w0 w'∧Kept w w' (fun k_=>P0_0_ k_):=by
 have hu24:=Try.underlying24
 have HO0_0:=Aside0.mk (show Kd.R (Kd.int .i64) 3 w w0.heap.size (fun k_=>(P0_0_ k_ ∨ w.heap.size≤k_)) u9000_ l0_0 from Kd.R_mono ho0_0 (fun k_ hk=>(.inl hk)))
 have HK:=Aside0.mk (Kept.refl w (fun k_=>P0_0_ k_))
 have HW0:=Aside0.mk hB.size
 have HB:=Aside0.mk hB
 clear hB
 have H:=h
 unfold X7.f at H
 clear h
 replace H:=bE H;obtain⟨⟨t102,t103⟩,A3,H⟩:=H
 try dsimp only at H
 simp only[Option.some.injEq,Prod.mk.injEq] at H
 obtain⟨rfl,rfl⟩:=H
 obtain⟨Aoz1,coz1,eoz1⟩:=Kd.R_slice HO0_0.out
 subst eoz1
 go_enter Try.func19,Try.ntmps19
 go_wp2_with (first | ((with_reducible refine gate_dst (N:=2) rfl ?_);refine boxE 2 #[.slice Aoz1 l0_0.length coz1,.int .i64 a0_1] 24 ?_;intro gbz1 hg wz1 hbox hb;have BKz1:=Aside0.mk (hbox);have GWz1:=Aside0.mk ((by rw[hg];exact(by first | exact HK.out.1 | exact(show Kept w _ (fun k_=>P0_0_ k_) from by repeat (first | (with_reducible first | exact HK.out | apply Kept.alloc | apply Kept.drewN | apply Kept.drew) | exact HK.out)).1):w.heap.size≤gbz1));have GEz1:=Aside0.mk (gX' hg (hX HB.out));replace HO0_0:=Aside0.mk (Kd.R_below (rX HO0_0.out) hb);replace HK:=Aside0.mk (Kept.below (S:=(fun k_=>P0_0_ k_)) (by repeat (first | (with_reducible first | exact HK.out | apply Kept.alloc | apply Kept.drewN | apply Kept.drew) | exact HK.out)) hb);replace HB:=Aside0.mk (below_step (hX HB.out) hb);clear hb hbox hg;obtain⟨hczz1,hczz2,hfzz1,hfzz2⟩:=cZ2 BKz1.out) | ((with_reducible refine gate_callee (f:=18) rfl ?_);refine goesM 18 8 Try.func18 #[.slice Aoz1 l0_0.length coz1,.int .i64 a1] ?_;refine(Xh.calls k (fun k_=>some k_=(.slice Aoz1 l0_0.length coz1:Value).ownBlock) (.slice Aoz1 l0_0.length coz1) l0_0 a1 t102 t103 w0 _ (by repeat (first | (with_reducible first | exact HB.out | apply below_alloc | apply pw_below_drewN | apply below_drew1 | refine below_set ?_ GEz1.out) | exact HB.out)) (by exact Kd.R_tight rfl HO0_0.out) A3.out).mono ?_;rintro e wz2 ⟨rfl,hyz1,hb,hkp⟩;refine⟨_,rfl,?_⟩;replace BKz1:=Aside0.mk (blk_kept (bX BKz1.out) hkp (fun hs_=>(fun e_=>(Kd.R_ne HO0_0.out BKz1.out (by decide)) e_) hs_));replace HK:=Aside0.mk (Kept.then_ (S:=(fun k_=>P0_0_ k_)) (by repeat (first | (with_reducible first | exact HK.out | apply Kept.alloc | apply Kept.drewN | apply Kept.drew | refine Kept.setCell ?_ (.inr GWz1.out) _) | exact HK.out)) hkp (fun k_ hs_=>(fun e_=>(HO0_0.out.1 k_ e_.symm)) hs_));replace HO0_0:=Aside0.mk (Kd.R_reok rfl hyz1 (fun k_ e_=>HO0_0.out.1 k_ e_));replace HB:=Aside0.mk (hb);clear hb hkp hyz1))
 go_ret
 exact⟨rE,(rX HO0_0.out),(hX HB.out),by repeat (first | (with_reducible first | exact HK.out | apply Kept.alloc | apply Kept.drewN | apply Kept.drew | refine Kept.setCell ?_ (.inr GWz1.out) _) | exact HK.out)⟩
end Go.Proofs.Yteamagejhbkhnaa.P
