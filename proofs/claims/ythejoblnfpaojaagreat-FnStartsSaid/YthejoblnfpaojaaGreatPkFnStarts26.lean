/- A part of the proof of the law FnStarts: texts of this seat, merged (words, printed functions of the program, plain lemmas). Conditions: none of its own. -/
import Derived.Test.YthejoblnfpaojaaGreatPkFnStarts22
set_option linter.unusedSimpArgs false
set_option linter.unusedVariables false
set_option maxHeartbeats 8000000
set_option maxRecDepth 100000
namespace Go.Proofs.YthejoblnfpaojaaGreat.P
open Go.Proofs.YthejoblnfpaojaaGreatZ Go.RowKit Go.Proofs.YthejoblnfpaojaaGreatW.PrintWords Go.Proofs.YthejoblnfpaojaaGreatW.PrintLast Go.Proofs.YthejoblnfpaojaaGreatW.PrintMore
attribute [local go_sem] max2_int min2_int max_two min_two max_three min_three max_four min_four   -- for this text's walks alone
mutual
def Xa.l0:Nat→Int→Int→List (S51)→List (S58)→List (S108)→Int→List (S80)→List Int→List Int→Int→Option (Bool)
 | 0,_,_,_,_,_,_,_,_,_,_=>none
 | k+1,x3,x4,x102000,x102001,x102002,x102003,x102004,x102005,x102006,x102007=>if x4<(x102004.length:Int) then (if 0≤x4 then ((XaC.f k x102000 x102001 x102002 x102003 x102004 x102005 x102006 x102007 ((rd_T80 x102004 x4).f0) ((rd_T80 x102004 x4).f1.f0) ((rd_T80 x102004 x4).f1.f1) ((rd_T80 x102004 x4).f1.f2) ((rd_T80 x102004 x4).f2) ((rd_T80 x102004 x4).f3) ((rd_T80 x102004 x4).f4) ((rd_T80 x102004 x4).f5.f0) ((rd_T80 x102004 x4).f5.f1)).bind fun t103=>(if t103=true then ((Xag.f (decide (((rd_T80 x102004 x4).f3) ≥ 0))).bind fun t105=>(Xa.l0 k (wrap64 (x3+t105)) (wrap64 (x4+1)) x102000 x102001 x102002 x102003 x102004 x102005 x102006 x102007)) else (some false))) else (none)) else (Xa.l1 k x3 0 x102000 x102001 x102002 x102003 x102004 x102005 x102006 x102007)
def Xa.l1:Nat→Int→Int→List (S51)→List (S58)→List (S108)→Int→List (S80)→List Int→List Int→Int→Option (Bool)
 | 0,_,_,_,_,_,_,_,_,_,_=>none
 | k+1,x3,x5,x102000,x102001,x102002,x102003,x102004,x102005,x102006,x102007=>if x5<(x102005.length:Int) then (if 0≤x5 then ((Xb.f (rd x102005 x5) 0 (wrap64 ((x102004.length:Int) - 1))).bind fun t107=>(if t107=true then (if 0≤(rd x102005 x5) then (if (rd x102005 x5)<(x102004.length:Int) then (if ((rd_T80 x102004 (rd x102005 x5)).f3)<0 then (Xa.j2 k x3 x5 (rd x102005 x5) true x102000 x102001 x102002 x102003 x102004 x102005 x102006 x102007) else (if x5 > 0 then (if 0≤(wrap64 (x5 - 1)) then (if (wrap64 (x5 - 1))<(x102005.length:Int) then (if 0≤(rd x102005 (wrap64 (x5 - 1))) then (if (rd x102005 (wrap64 (x5 - 1)))<(x102004.length:Int) then (Xa.j2 k x3 x5 (rd x102005 x5) (decide (((rd_T80 x102004 (rd x102005 (wrap64 (x5 - 1)))).f3) > ((rd_T80 x102004 (rd x102005 x5)).f3))) x102000 x102001 x102002 x102003 x102004 x102005 x102006 x102007) else (none)) else (none)) else (none)) else (none)) else (Xa.j2 k x3 x5 (rd x102005 x5) false x102000 x102001 x102002 x102003 x102004 x102005 x102006 x102007))) else (none)) else (none)) else (Xa.j2 k x3 x5 (rd x102005 x5) true x102000 x102001 x102002 x102003 x102004 x102005 x102006 x102007))) else (none)) else (if (x102004.length:Int)≤40 then (some (x3 == (x102005.length:Int))) else (some false))
def Xa.j2:Nat→Int→Int→Int→Bool→List (S51)→List (S58)→List (S108)→Int→List (S80)→List Int→List Int→Int→Option (Bool)
 | 0,_,_,_,_,_,_,_,_,_,_,_,_=>none
 | k+1,x3,x5,x6,x84,x102000,x102001,x102002,x102003,x102004,x102005,x102006,x102007=>if x84=true then (some false) else (Xa.l2 k x3 x5 x6 0 x102000 x102001 x102002 x102003 x102004 x102005 x102006 x102007)
def Xa.l2:Nat→Int→Int→Int→Int→List (S51)→List (S58)→List (S108)→Int→List (S80)→List Int→List Int→Int→Option (Bool)
 | 0,_,_,_,_,_,_,_,_,_,_,_,_=>none
 | k+1,x3,x5,x6,x7,x102000,x102001,x102002,x102003,x102004,x102005,x102006,x102007=>if x7<x5 then (if 0≤x7 then (if x7<(x102005.length:Int) then (if (rd x102005 x7)=x6 then (some false) else (Xa.l2 k x3 x5 x6 (wrap64 (x7+1)) x102000 x102001 x102002 x102003 x102004 x102005 x102006 x102007)) else (none)) else (none)) else (Xa.l1 k x3 (wrap64 (x5+1)) x102000 x102001 x102002 x102003 x102004 x102005 x102006 x102007)
end
def Xa.f (k:Nat) (l0_0:List (S51)) (l0_1:List (S58)) (l0_2:List (S108)) (a0_3:Int) (l0_4:List (S80)) (l0_5:List Int) (l0_6:List Int) (a0_7:Int):Option (Bool):=Xa.l0 k 0 0 l0_0 l0_1 l0_2 a0_3 l0_4 l0_5 l0_6 a0_7
def Xa.T5:Bool × List (List Nat × List Nat):=(true,[([],[]),([],[]),([1],[1]),([],[]),([2,3],[2,3]),([4],[4]),([0,5],[0,5]),([6],[6])])
def Xa.B5:List Nat:=[0,0,2,0,14,30,63,127]
theorem Xa.tab5:rtab .any (opsOf Tryz.f146 5)=Xa.T5:=by kernel_rfl
theorem Xa.bits5:waitsOk Xa.T5.2 Xa.B5=true:=by kernel_rfl
def Xa.T12:Bool × List (List Nat × List Nat):=(true,[([],[]),([],[]),([1],[1]),([2],[2]),([3],[3]),([0,4],[0,4]),([5],[5]),([6,5],[6]),([7],[7]),([8,7],[7,8]),([7],[7]),([9,10,7],[7,9,10]),([11,7],[7,11]),([12,7],[7,12]),([13,7],[7,13]),([7,14],[7,14]),([15,7],[15]),([16],[16]),([17,16],[16,17]),([18,16,16],[16,18]),([19],[19]),([20,19],[19,20]),([19],[19]),([22,19],[19,22]),([19],[19]),([24,19],[19,24]),([23,25,19],[19,23,25]),([26,19],[19,26]),([21,27,19],[19,21,27]),([28,19],[19,28]),([29,19],[19,29]),([19],[19]),([31,19],[19,31]),([19],[19]),([32,33,19],[19,32,33]),([34,19],[19,34]),([35,19],[19,35]),([30,36,19],[19,30,36]),([19,37,16],[16,19,37]),([16,38],[16,38])])
def Xa.B12:List Nat:=[0,0,2,6,14,31,63,127,255,511,255,2047,4095,8191,16383,32767,65535,131071,262143,524287,1048575,2097151,1048575,5242879,1048575,17825791,63963135,131071999,268435455,536870911,1073741823,1048575,2148532223,1048575,15033434111,32213303295,66573041663,137438953471,274877906943,549755813887]
theorem Xa.tab12:rtab .any (opsOf Tryz.f146 12)=Xa.T12:=by kernel_rfl
theorem Xa.bits12:waitsOk Xa.T12.2 Xa.B12=true:=by kernel_rfl
theorem Xa.calls (k:Nat) (A0_0:Option Addr) (c0_0:Nat) (l0_0:List (S51)) (A0_1:Option Addr) (c0_1:Nat) (l0_1:List (S58)) (A0_2:Option Addr) (c0_2:Nat) (l0_2:List (S108)) (a0_3:Int) (A0_4:Option Addr) (c0_4:Nat) (l0_4:List (S80)) (A0_5:Option Addr) (c0_5:Nat) (l0_5:List Int) (A0_6:Option Addr) (c0_6:Nat) (l0_6:List Int) (a0_7:Int) (r:Bool) (w:World) (h0_0:Rw k51 w A0_0 c0_0 l0_0) (h0_1:Rw k58 w A0_1 c0_1 l0_1) (h0_2:Rw k108 w A0_2 c0_2 l0_2) (h0_4:Rw k80 w A0_4 c0_4 l0_4) (h0_5:Rw (Kd.int .i64) w A0_5 c0_5 l0_5) (h0_6:Rw (Kd.int .i64) w A0_6 c0_6 l0_6) (H:Xa.f k l0_0 l0_1 l0_2 a0_3 l0_4 l0_5 l0_6 a0_7=some r) :
  Calls Tryz.prog 146 #[.agg #[.slice A0_0 l0_0.length c0_0,.slice A0_1 l0_1.length c0_1,.slice A0_2 l0_2.length c0_2,.int .i64 a0_3,.slice A0_4 l0_4.length c0_4,.slice A0_5 l0_5.length c0_5,.slice A0_6 l0_6.length c0_6,.int .i64 a0_7]] w fun e w'=>e = .returned (.bool r)∧Below w.heap.size w w':=by
 have hu37:=Tryz.underlying37
 have hu80:=Tryz.underlying80
 obtain⟨HR0_0,HC0_0⟩:=h0_0
 obtain⟨HR0_1,HC0_1⟩:=h0_1
 obtain⟨HR0_2,HC0_2⟩:=h0_2
 obtain⟨HR0_4,HC0_4⟩:=h0_4
 obtain⟨HR0_5,HC0_5⟩:=h0_5
 obtain⟨HR0_6,HC0_6⟩:=h0_6
 have HB:=aM (Below.refl w.heap.size w)
 unfold Xa.f at H
 have H':=aM H
 clear H
 go_enter Tryz.func146,Tryz.ntmps146
 go_wp2_with ((with_reducible refine gate_dst (N:=1) rfl ?_);(try (refine gate_guard (by rfl) ?_;dsimp only));refine boxF 1 #[.slice A0_0 l0_0.length c0_0,.slice A0_1 l0_1.length c0_1,.slice A0_2 l0_2.length c0_2,.int .i64 a0_3,.slice A0_4 l0_4.length c0_4,.slice A0_5 l0_5.length c0_5,.slice A0_6 l0_6.length c0_6,.int .i64 a0_7] 37 ?_;intro gbz1 hg wz1 hbox hb;have BKz1:=aM (hbox);have GWz1:=aG hg HB;replace HB:=aS HB hb;clear hb hbox hg)
 go_loopg [3,4] k (fun kq v3 v4 w'=>∃ (x3_1:Int) (x4_1:Int),v3 = .int .i64 x3_1∧v4 = .int .i64 x4_1∧Aside0 (Xa.l0 kq x3_1 x4_1 l0_0 l0_1 l0_2 a0_3 l0_4 l0_5 l0_6 a0_7=some r)∧Aside0 (kq≤k)∧Aside0 (w'.heap[gbz1]? = some (.cells #[(.slice A0_0 l0_0.length c0_0),(.slice A0_1 l0_1.length c0_1),(.slice A0_2 l0_2.length c0_2),.int .i64 a0_3,(.slice A0_4 l0_4.length c0_4),(.slice A0_5 l0_5.length c0_5),(.slice A0_6 l0_6.length c0_6),.int .i64 a0_7] 37 (0,0)))∧Aside0 (Below w.heap.size w w'))
 case atStart=>exact⟨(0),(0),rS,rS,H',⟨Nat.le_refl _⟩,⟨(bX BKz1.out)⟩,⟨(hX HB.out)⟩⟩
 case round =>
  clear H'
  obtain⟨x3_1,x4_1,rfl,rfl,HA,HKy1,BKz1,HB⟩:=hrel
  cases gk with
  | zero=>exact absurd HA.out (by simp[Xa.l0])
  | succ k1 =>
   have H:=HA.out
   clear HA
   simp only[Xa.l0] at H
   revert H;refine iP ?_ ?_<;>intro c3b0 H
   ·replace H:=ifP H;obtain⟨c4,H⟩:=H
    have c4b0:=decide_eq_true c4
    clear c4
    replace H:=bE H;obtain⟨t103,A5,H⟩:=H
    have hczx1:=cZ8 BKz1.out
    try go_wp2
    obtain⟨adx1,Ax1,cx1,ex1,px1,qx1,hxx1,HCx1,HRx1⟩:=at_T80c HR0_4 HB x4_1
    cases ex1
    have hcb0_:=cV8 BKz1.out
    refine sR0 8 Xa.tab5 Xa.bits5 (fun HT_ HW_ hHeld => ?_)
    refine zA 1 ?_
    refine zA 3 ?_
    refine tA 0 ?_
    refine tA 2 ?_
    refine zA 4 ?_
    refine tA 5 ?_
    cases t103
    case false =>
     rw[if_neg nft] at H
     obtain rfl:=sI H
     refine eB 6 Tryz.func194 (XaC.calls _ _ _ _ _ _ _ _ _ _ _ _ _ _ _ _ _ _ _ _ _ _ _ _ _ _ _ _ _ _ _ _ _ _ (rW HR0_0 HB HC0_0) (rW HR0_1 HB HC0_1) (rW HR0_2 HB HC0_2) (rW HR0_4 HB HC0_4) (rW HR0_5 HB HC0_5) (rW HR0_6 HB HC0_6) (rW HRx1 HB HCx1) A5.out) (fun wx2 hb hHeld => ?_)
     replace BKz1:=aB BKz1 hb
     replace HB:=aS HB hb
     (try clear hb)
     refine zA 7 ?_
     refine dA ?_
     try go_wp2
     go_ret
     exact⟨rE,(hX HB.out)⟩
    rw[if_pos rfl] at H
    replace H:=bE H;obtain⟨t105,A7,H⟩:=H
    have H':=aM H
    clear H
    refine eB 6 Tryz.func194 (XaC.calls _ _ _ _ _ _ _ _ _ _ _ _ _ _ _ _ _ _ _ _ _ _ _ _ _ _ _ _ _ _ _ _ _ _ (rW HR0_0 HB HC0_0) (rW HR0_1 HB HC0_1) (rW HR0_2 HB HC0_2) (rW HR0_4 HB HC0_4) (rW HR0_5 HB HC0_5) (rW HR0_6 HB HC0_6) (rW HRx1 HB HCx1) A5.out) (fun wx2 hb hHeld => ?_)
    replace BKz1:=aB BKz1 hb
    replace HB:=aS HB hb
    (try clear hb)
    refine zA 7 ?_
    refine dA ?_
    have hczx9:=cZ8 BKz1.out
    obtain⟨adx2,Ax2,cx2,ex2,px2,qx2,hxx10,HCx2,HRx2⟩:=at_T80c HR0_4 HB x4_1
    obtain rfl:adx1=adx2:=(by injection ex2)
    try go_wp2_with (refine gD 195 31 Tryz.func195 (Xag.calls _ _ _ A7.out) ?_;intro nd)
    go_roundg k1
    case measure=>have:=HKy1.out;omega
    case rel=>exact⟨(wrap64 (x3_1+t105)),(wrap64 (x4_1+1)),rS,rS,H',⟨by have:=HKy1.out;omega⟩,⟨(bX BKz1.out)⟩,⟨(hX HB.out)⟩⟩
   have H':=aM H
   clear H
   have hczx1:=cZ8 BKz1.out
   go_wp2
   go_loopg [5] k1 (fun kq v5 w'=>∃ (x5_2:Int),v5 = .int .i64 x5_2∧Aside0 (Xa.l1 kq x3_1 x5_2 l0_0 l0_1 l0_2 a0_3 l0_4 l0_5 l0_6 a0_7=some r)∧Aside0 (kq≤k1)∧Aside0 (w'.heap[gbz1]? = some (.cells #[(.slice A0_0 l0_0.length c0_0),(.slice A0_1 l0_1.length c0_1),(.slice A0_2 l0_2.length c0_2),.int .i64 a0_3,(.slice A0_4 l0_4.length c0_4),(.slice A0_5 l0_5.length c0_5),(.slice A0_6 l0_6.length c0_6),.int .i64 a0_7] 37 (0,0)))∧Aside0 (Below w.heap.size w w'))
   case atStart=>exact⟨(0),rS,H',⟨Nat.le_refl _⟩,⟨(bX BKz1.out)⟩,⟨(hX HB.out)⟩⟩
   case round =>
    clear H'
    try clear c3b0
    try clear hczx1
    obtain⟨x5_2,rfl,HA,HKw1,BKz1,HB⟩:=hrel
    cases gk with
    | zero=>exact absurd HA.out (by simp[Xa.l1])
    | succ k2 =>
     have H:=HA.out
     clear HA
     simp only[Xa.l1] at H
     revert H;refine iN ?_ ?_<;>intro c16b0 H
     ·by_cases c42:(l0_4.length:Int)≤40
      ·rw[if_pos c42] at H
       have c42b0:=decide_eq_true c42
       have c42b1:decide (l0_4.length≤40)=true:=decide_eq_true (by omega)
       clear c42
       obtain rfl:=sI H
       have hczv1:=cZ8 BKz1.out
       exact fS
      rw[if_neg c42] at H
      have c42b0:=decide_eq_false c42
      have c42b1:decide (l0_4.length≤40)=false:=decide_eq_false (by omega)
      clear c42
      obtain rfl:=sI H
      have hczv1:=cZ8 BKz1.out
      exact fS
     replace H:=ifQ H;obtain⟨c17b0,H⟩:=H
     have HC18:=aM H
     clear H
     have hczv1:=cZ8 BKz1.out
     obtain⟨adv1,ev1,pv1,qv1,hxv1⟩:=at_ic HR0_5 HB x5_2
     cases ev1
     go_upto_region 12 with(fail)
     go_cut [84] (fun vv1 wc=>∃ (kq:Nat) (x84_17:Bool),vv1 = .bool x84_17∧Aside0 (Xa.j2 kq x3_1 x5_2 (rd l0_5 x5_2) x84_17 l0_0 l0_1 l0_2 a0_3 l0_4 l0_5 l0_6 a0_7=some r)∧Aside0 (kq≤k2)∧Aside0 (wc.heap[gbz1]? = some (.cells #[(.slice A0_0 l0_0.length c0_0),(.slice A0_1 l0_1.length c0_1),(.slice A0_2 l0_2.length c0_2),.int .i64 a0_3,(.slice A0_4 l0_4.length c0_4),(.slice (some adv1) l0_5.length c0_5),(.slice A0_6 l0_6.length c0_6),.int .i64 a0_7] 37 (0,0)))∧Aside0 (Below w.heap.size w wc))
     case first =>
      have H:=HC18.out
      clear HC18
      replace H:=bE H;obtain⟨t107,A20,H⟩:=H
      cases t107
      case false =>
       rw[if_neg nft] at H
       have H':=aM H
       clear H
       try go_wp2
       have hcb0_:=cV8 BKz1.out
       refine sR0 40 Xa.tab12 Xa.bits12 (fun HT_ HW_ hHeld => ?_)
       refine zA 0 ?_
       refine zA 1 ?_
       refine tA 2 ?_
       refine zA 3 ?_
       refine zA 4 ?_
       refine eD 5 Tryz.func95 (Xb.calls _ _ _ _ _ A20.out) (fun nd hHeld => ?_)
       refine zA 6 ?_
       refine zA 7 ?_
       refine uA 8 ?_
       refine uA 9 ?_
       refine uA 10 ?_
       refine uA 11 ?_
       refine uA 12 ?_
       refine uA 13 ?_
       refine uA 14 ?_
       refine zA 15 ?_
       refine zA 16 ?_
       refine uA 17 ?_
       refine uA 18 ?_
       refine uA 19 ?_
       refine uA 20 ?_
       refine uA 21 ?_
       refine uA 22 ?_
       refine uA 23 ?_
       refine uA 24 ?_
       refine uA 25 ?_
       refine uA 26 ?_
       refine uA 27 ?_
       refine uA 28 ?_
       refine uA 29 ?_
       refine uA 30 ?_
       refine uA 31 ?_
       refine uA 32 ?_
       refine uA 33 ?_
       refine uA 34 ?_
       refine uA 35 ?_
       refine uA 36 ?_
       refine uA 37 ?_
       refine uA 38 ?_
       refine zA 39 ?_
       refine dA ?_
       try go_wp2
       go_meet
       case rel=>exact⟨_,(true),rS,H',⟨by have:=HKy1.out;have:=HKw1.out;first | omega | exact Nat.le_refl _⟩,⟨(bX BKz1.out)⟩,⟨(hX HB.out)⟩⟩
      rw[if_pos rfl] at H
      replace H:=ifQ H;obtain⟨c22b0,H⟩:=H
      (first | rw[c22b0] | (simp only[i64_w,i32_w];rw[c22b0]) | skip)
      replace H:=ifQ H;obtain⟨c23b0,H⟩:=H
      revert H;refine iP ?_ ?_<;>intro c24b0 H
      ·have H':=aM H
       clear H
       try go_wp2
       obtain⟨adu1,Au1,cu1,eu1,pu1,qu1,hxu1,HCu1,HRu1⟩:=at_T80c HR0_4 HB (rd l0_5 x5_2)
       cases eu1
       have hcb0_:=cV8 BKz1.out
       refine sR0 40 Xa.tab12 Xa.bits12 (fun HT_ HW_ hHeld => ?_)
       refine zA 0 ?_
       refine zA 1 ?_
       refine tA 2 ?_
       refine zA 3 ?_
       refine zA 4 ?_
       refine eD 5 Tryz.func95 (Xb.calls _ _ _ _ _ A20.out) (fun nd hHeld => ?_)
       refine zA 6 ?_
       refine zA 7 ?_
       refine zA 8 ?_
       refine zA 10 ?_
       refine tA 9 ?_
       refine zA 11 ?_
       refine zA 12 ?_
       refine tA 13 ?_
       refine zA 14 ?_
       refine zA 15 ?_
       refine zA 16 ?_
       refine uA 17 ?_
       refine uA 18 ?_
       refine uA 19 ?_
       refine uA 20 ?_
       refine uA 21 ?_
       refine uA 22 ?_
       refine uA 23 ?_
       refine uA 24 ?_
       refine uA 25 ?_
       refine uA 26 ?_
       refine uA 27 ?_
       refine uA 28 ?_
       refine uA 29 ?_
       refine uA 30 ?_
       refine uA 31 ?_
       refine uA 32 ?_
       refine uA 33 ?_
       refine uA 34 ?_
       refine uA 35 ?_
       refine uA 36 ?_
       refine uA 37 ?_
       refine uA 38 ?_
       refine zA 39 ?_
       refine dA ?_
       try go_wp2
       go_meet
       case rel=>exact⟨_,(true),rS,H',⟨by have:=HKy1.out;have:=HKw1.out;first | omega | exact Nat.le_refl _⟩,⟨(bX BKz1.out)⟩,⟨(hX HB.out)⟩⟩
      revert H;refine iN ?_ ?_<;>intro c26b0 H
      ·have H':=aM H
       clear H
       try go_wp2
       obtain⟨adu1,Au1,cu1,eu1,pu1,qu1,hxu1,HCu1,HRu1⟩:=at_T80c HR0_4 HB (rd l0_5 x5_2)
       cases eu1
       have hcb0_:=cV8 BKz1.out
       refine sR0 40 Xa.tab12 Xa.bits12 (fun HT_ HW_ hHeld => ?_)
       refine zA 0 ?_
       refine zA 1 ?_
       refine tA 2 ?_
       refine zA 3 ?_
       refine zA 4 ?_
       refine eD 5 Tryz.func95 (Xb.calls _ _ _ _ _ A20.out) (fun nd hHeld => ?_)
       refine zA 6 ?_
       refine zA 7 ?_
       refine zA 8 ?_
       refine zA 10 ?_
       refine tA 9 ?_
       refine zA 11 ?_
       refine zA 12 ?_
       refine tA 13 ?_
       refine zA 14 ?_
       refine zA 15 ?_
       refine zA 16 ?_
       refine zA 17 ?_
       refine zA 18 ?_
       refine zA 19 ?_
       refine uA 20 ?_
       refine uA 21 ?_
       refine uA 22 ?_
       refine uA 23 ?_
       refine uA 24 ?_
       refine uA 25 ?_
       refine uA 26 ?_
       refine uA 27 ?_
       refine uA 28 ?_
       refine uA 29 ?_
       refine uA 30 ?_
       refine uA 31 ?_
       refine uA 32 ?_
       refine uA 33 ?_
       refine uA 34 ?_
       refine uA 35 ?_
       refine uA 36 ?_
       refine uA 37 ?_
       refine zA 38 ?_
       refine zA 39 ?_
       refine dA ?_
       try go_wp2
       go_meet
       case rel=>exact⟨_,(false),rS,H',⟨by have:=HKy1.out;have:=HKw1.out;first | omega | exact Nat.le_refl _⟩,⟨(bX BKz1.out)⟩,⟨(hX HB.out)⟩⟩
      obtain⟨ji27,hji27⟩:∃ j_:Int,(wrap64 (x5_2 - 1))=j_:=⟨_,rfl⟩
      replace H:(if 0≤(ji27) then (if (ji27)<(l0_5.length:Int) then (if 0≤(rd l0_5 (ji27)) then (if (rd l0_5 (ji27))<(l0_4.length:Int) then (Xa.j2 k2 x3_1 x5_2 (rd l0_5 x5_2) (decide (((rd_T80 l0_4 (rd l0_5 (ji27))).f3) > ((rd_T80 l0_4 (rd l0_5 x5_2)).f3))) l0_0 l0_1 l0_2 a0_3 l0_4 l0_5 l0_6 a0_7) else (none)) else (none)) else (none)) else (none))=some r:=by first | (rw[hji27] at H;exact H) | (simp only[hji27] at H ⊢;exact H)
      (try rw[hji27] at A20)
      have hji27w:(IntKind.i64.wrap (x5_2 - 1))=ji27:=(i64_w _).trans hji27
      replace H:=ifQ H;obtain⟨c28b0,H⟩:=H
      replace H:=ifQ H;obtain⟨c29b0,H⟩:=H
      replace H:=ifQ H;obtain⟨c30b0,H⟩:=H
      replace H:=ifQ H;obtain⟨c31b0,H⟩:=H
      have H':=aM H
      clear H
      try go_wp2
      obtain⟨adu1,Au1,cu1,eu1,pu1,qu1,⟨hxu1,hxu2,hxu3,hxu4,hxu5,hxu6,hxu7,hxu8,hxu9⟩,HCu1,HRu1⟩:=at_T80c HR0_4 HB (rd l0_5 x5_2)
      cases eu1
      obtain⟨adu2,eu2,pu2,qu2,hxu10⟩:=at_ic HR0_5 HB (ji27)
      obtain rfl:adv1=adu2:=(by injection eu2)
      obtain⟨adu3,Au2,cu2,eu3,pu3,qu3,hxu11,HCu2,HRu2⟩:=at_T80c HR0_4 HB (rd l0_5 (ji27))
      obtain rfl:adu1=adu3:=(by injection eu3)
      obtain⟨adu4,Au3,cu3,eu4,pu4,qu4,⟨hxu20,hxu21,hxu22,hxu23,hxu24,hxu25,hxu26,hxu27,hxu28⟩,HCu3,HRu3⟩:=at_T80c HR0_4 HB (rd l0_5 x5_2)
      obtain rfl:adu1=adu4:=(by injection eu4)
      have ea_:=Option.some.inj (hxu9.symm.trans hxu28)
      injection ea_ with ea_ en_ ec_
      subst ea_
      subst ec_
      clear en_
      have hcb0_:=cV8 BKz1.out
      refine sR0 40 Xa.tab12 Xa.bits12 (fun HT_ HW_ hHeld => ?_)
      refine zA 0 ?_
      refine zA 1 ?_
      refine tA 2 ?_
      refine zA 3 ?_
      refine zA 4 ?_
      refine eD 5 Tryz.func95 (Xb.calls _ _ _ _ _ A20.out) (fun nd hHeld => ?_)
      refine zA 6 ?_
      refine zA 7 ?_
      refine zA 8 ?_
      refine zA 10 ?_
      refine tA 9 ?_
      refine zA 11 ?_
      refine zA 12 ?_
      refine tA 13 ?_
      refine zA 14 ?_
      refine zA 15 ?_
      refine zA 16 ?_
      refine zA 17 ?_
      refine zA 18 ?_
      refine zA 19 ?_
      refine zA 20 ?_
      refine zA 22 ?_
      refine zA 24 ?_
      refine zA 25 ?_
      refine zA 31 ?_
      refine zA 33 ?_
      refine tA 21 ?_
      refine tA 23 ?_
      refine zA 26 ?_
      refine tA 27 ?_
      refine zA 28 ?_
      refine zA 29 ?_
      refine tA 30 ?_
      refine tA 32 ?_
      refine zA 34 ?_
      refine zA 35 ?_
      refine tA 36 ?_
      refine zA 37 ?_
      refine zA 38 ?_
      refine zA 39 ?_
      refine dA ?_
      try go_wp2
      go_meet
      case rel=>exact⟨_,(decide (((rd_T80 l0_4 (rd l0_5 (ji27))).f3) > ((rd_T80 l0_4 (rd l0_5 x5_2)).f3))),(by first | rfl | (simp;done) | (simp only[← hji27]<;>(first | rfl | simp)) | (simp[*];done)),H',⟨by have:=HKy1.out;have:=HKw1.out;first | omega | exact Nat.le_refl _⟩,⟨(bX BKz1.out)⟩,⟨(hX HB.out)⟩⟩
     case rest =>
      clear HC18
      obtain⟨kq,x84_17,rfl,HA,HJu1,BKz1,HB⟩:=hcut
      cases kq with
      | zero=>exact absurd HA.out (by simp[Xa.j2])
      | succ kj17 =>
       have H:=HA.out
       clear HA
       simp only[Xa.j2] at H
       cases x84_17
       case true =>
        rw[if_pos rfl] at H
        exact fR
       rw[if_neg nft] at H
       have H':=aM H
       clear H
       go_wp2
       go_loopg [7] kj17 (fun kq v7 w'=>∃ (x7_4:Int),v7 = .int .i64 x7_4∧Aside0 (Xa.l2 kq x3_1 x5_2 (rd l0_5 x5_2) x7_4 l0_0 l0_1 l0_2 a0_3 l0_4 l0_5 l0_6 a0_7=some r)∧Aside0 (kq≤kj17)∧Aside0 (w'.heap[gbz1]? = some (.cells #[(.slice A0_0 l0_0.length c0_0),(.slice A0_1 l0_1.length c0_1),(.slice A0_2 l0_2.length c0_2),.int .i64 a0_3,(.slice A0_4 l0_4.length c0_4),(.slice (some adv1) l0_5.length c0_5),(.slice A0_6 l0_6.length c0_6),.int .i64 a0_7] 37 (0,0)))∧Aside0 (Below w.heap.size w w'))
       case atStart=>exact⟨(0),rS,H',⟨Nat.le_refl _⟩,⟨(bX BKz1.out)⟩,⟨(hX HB.out)⟩⟩
       case round =>
        clear H'
        obtain⟨x7_4,rfl,HA,HKs1,BKz1,HB⟩:=hrel
        cases gk with
        | zero=>exact absurd HA.out (by simp[Xa.l2])
        | succ k4 =>
         have H:=HA.out
         clear HA
         simp only[Xa.l2] at H
         revert H;refine iN ?_ ?_<;>intro c36b0 H
         ·have H':=aM H
          clear H
          go_wp2
          go_roundg k4
          case measure=>have:=HKy1.out;have:=HKw1.out;have:=HJu1.out;have:=HKs1.out;omega
          case rel=>exact⟨(wrap64 (x5_2+1)),rS,H',⟨by have:=HKy1.out;have:=HKw1.out;have:=HJu1.out;have:=HKs1.out;omega⟩,⟨(bX BKz1.out)⟩,⟨(hX HB.out)⟩⟩
         replace H:=ifQ H;obtain⟨c37b0,H⟩:=H
         replace H:=ifQ H;obtain⟨c38b0,H⟩:=H
         revert H;refine eP ?_ ?_<;>intro c39b0 c39b1 H
         ·obtain rfl:=sI H
          have hczr1:=cZ8 BKz1.out
          obtain⟨adr1,er1,pr1,qr1,hxr1⟩:=at_ic HR0_5 HB x7_4
          obtain rfl:adv1=adr1:=(by injection er1)
          exact fS
         have H':=aM H
         clear H
         have hczr1:=cZ8 BKz1.out
         obtain⟨adr1,er1,pr1,qr1,hxr1⟩:=at_ic HR0_5 HB x7_4
         obtain rfl:adv1=adr1:=(by injection er1)
         go_wp2
         go_roundg k4
         case measure=>have:=HKy1.out;have:=HKw1.out;have:=HJu1.out;have:=HKs1.out;omega
         case rel=>exact⟨(wrap64 (x7_4+1)),rS,H',⟨by have:=HKy1.out;have:=HKw1.out;have:=HJu1.out;have:=HKs1.out;omega⟩,⟨(bX BKz1.out)⟩,⟨(hX HB.out)⟩⟩
end Go.Proofs.YthejoblnfpaojaaGreat.P
