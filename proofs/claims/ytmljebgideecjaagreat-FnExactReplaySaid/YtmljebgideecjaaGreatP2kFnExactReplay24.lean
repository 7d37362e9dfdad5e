/- A part of the proof of the law FnExactReplay: texts of this seat, merged (words, printed functions of the program, plain lemmas). Conditions: none of its own. -/
import Derived.Test.YtmljebgideecjaaGreatP2kFnExactReplay18
import Derived.Test.YtmljebgideecjaaGreatP2kFnExactReplay19
set_option linter.unusedSimpArgs false
set_option linter.unusedVariables false
set_option maxHeartbeats 8000000
set_option maxRecDepth 100000
namespace Go.Proofs.YtmljebgideecjaaGreat.P2
open Go.Proofs.YtmljebgideecjaaGreatZ Go.RowKit Go.Proofs.YtmljebgideecjaaGreatW.PrintWords Go.Proofs.YtmljebgideecjaaGreatW.PrintLast Go.Proofs.YtmljebgideecjaaGreatW.PrintMore
attribute [local go_sem] max2_int min2_int max_two min_two max_three min_three max_four min_four   -- for this text's walks alone
mutual
def Xe.l0:Nat→Int→List (S73)→Int→Int→List (S140)→List (S162)→List (S97)→Int→List (S73)→List Int→List Int→Int→Option (Bool)
 | 0,_,_,_,_,_,_,_,_,_,_,_,_=>none
 | k+1,x3,x9,x10,x11,x102000,x102001,x102002,x102003,x102004,x102005,x102006,x102007=>if x11<x10 then (if 0≤x11 then (if x11<(x9.length:Int) then (if ((rd_T73 x9 x11).f3) ≥ 0 then (Xe.l0 k (wrap64 (x3+1)) x9 x10 (wrap64 (x11+1)) x102000 x102001 x102002 x102003 x102004 x102005 x102006 x102007) else (Xe.l0 k x3 x9 x10 (wrap64 (x11+1)) x102000 x102001 x102002 x102003 x102004 x102005 x102006 x102007)) else (none)) else (none)) else (Xe.l1 k x3 x102005 (x102005.length:Int) 0 x102000 x102001 x102002 x102003 x102004 x102005 x102006 x102007)
def Xe.l1:Nat→Int→List Int→Int→Int→List (S140)→List (S162)→List (S97)→Int→List (S73)→List Int→List Int→Int→Option (Bool)
 | 0,_,_,_,_,_,_,_,_,_,_,_,_=>none
 | k+1,x3,x22,x23,x24,x102000,x102001,x102002,x102003,x102004,x102005,x102006,x102007=>if x24<x23 then (if 0≤x24 then (if x24<(x22.length:Int) then ((Xd.f (rd x22 x24) 0 (wrap64 ((x102004.length:Int) - 1))).bind fun t105=>(if t105=true then (if 0≤(rd x22 x24) then (if (rd x22 x24)<(x102004.length:Int) then (if ((rd_T73 x102004 (rd x22 x24)).f3)<0 then (some false) else (if x24≤(x102005.length:Int) then ((slices_Contains_int_int.f k (x102005.take (x24:Int).toNat) (rd x22 x24)).bind fun t108=>(if t108=true then (some false) else (if x24 > 0 then (if 0≤(wrap64 (x24 - 1)) then (if (wrap64 (x24 - 1))<(x102005.length:Int) then (if 0≤(rd x102005 (wrap64 (x24 - 1))) then (if (rd x102005 (wrap64 (x24 - 1)))<(x102004.length:Int) then (if ((rd_T73 x102004 (rd x102005 (wrap64 (x24 - 1)))).f3) > ((rd_T73 x102004 (rd x22 x24)).f3) then (some false) else (Xe.l1 k x3 x22 x23 (wrap64 (x24+1)) x102000 x102001 x102002 x102003 x102004 x102005 x102006 x102007)) else (none)) else (none)) else (none)) else (none)) else (Xe.l1 k x3 x22 x23 (wrap64 (x24+1)) x102000 x102001 x102002 x102003 x102004 x102005 x102006 x102007)))) else (none))) else (none)) else (none)) else (some false))) else (none)) else (none)) else (some (x3 == (x102005.length:Int)))
end
def Xe.f (k:Nat) (l0_0:List (S140)) (l0_1:List (S162)) (l0_2:List (S97)) (a0_3:Int) (l0_4:List (S73)) (l0_5:List Int) (l0_6:List Int) (a0_7:Int):Option (Bool):=Xe.l0 k 0 l0_4 (l0_4.length:Int) 0 l0_0 l0_1 l0_2 a0_3 l0_4 l0_5 l0_6 a0_7
def Xe.T11:Bool × List (List Nat × List Nat):=(true,[([],[]),([],[]),([1],[1]),([2],[2]),([3],[3]),([0,4],[0,4]),([5],[5]),([6,5],[6]),([7],[7]),([8,7],[7,8]),([7],[7]),([9,10,7],[7,9,10]),([11,7],[7,11]),([12,7],[7,12]),([13,7],[7,13]),([7,14],[7,14]),([15,7],[15]),([16],[16]),([17,16],[16,17]),([16],[16]),([18,19,16],[16,18,19]),([16],[16]),([20,21,16,16],[16,20,21]),([16,22],[16,22]),([23,22],[23]),([24],[24]),([25,24],[24,25]),([26,24,24],[24,26]),([27],[27]),([28,27],[27,28]),([27],[27]),([30,27],[27,30]),([27],[27]),([32,27],[27,32]),([31,33,27],[27,31,33]),([34,27],[27,34]),([29,35,27],[27,29,35]),([36,27],[27,36]),([37,27],[27,37]),([27],[27]),([39,27],[27,39]),([27],[27]),([40,41,27],[27,40,41]),([42,27],[27,42]),([43,27],[27,43]),([38,44,27],[27,38,44]),([27,45,24],[24,27,45]),([24,46],[24,46])])
def Xe.B11:List Nat:=[0,0,2,6,14,31,63,127,255,511,255,2047,4095,8191,16383,32767,65535,131071,262143,131071,1048575,131071,4194303,8388607,16777215,33554431,67108863,134217727,268435455,536870911,268435455,1342177279,268435455,4563402751,16374562815,33554431999,68719476735,137438953471,274877906943,268435455,550024249343,268435455,3848559132671,8246605643775,17042698665983,35184372088831,70368744177663,140737488355327]
theorem Xe.tab11:rtab .any (opsOf Tryz.f108 11)=Xe.T11:=by kernel_rfl
theorem Xe.bits11:waitsOk Xe.T11.2 Xe.B11=true:=by kernel_rfl
theorem Xe.calls (k:Nat) (A0_0:Option Addr) (c0_0:Nat) (l0_0:List (S140)) (A0_1:Option Addr) (c0_1:Nat) (l0_1:List (S162)) (A0_2:Option Addr) (c0_2:Nat) (l0_2:List (S97)) (a0_3:Int) (A0_4:Option Addr) (c0_4:Nat) (l0_4:List (S73)) (A0_5:Option Addr) (c0_5:Nat) (l0_5:List Int) (A0_6:Option Addr) (c0_6:Nat) (l0_6:List Int) (a0_7:Int) (r:Bool) (w:World) (h0_0:Rw k140 w A0_0 c0_0 l0_0) (h0_1:Rw k162 w A0_1 c0_1 l0_1) (h0_2:Rw k97 w A0_2 c0_2 l0_2) (h0_4:Rw k73 w A0_4 c0_4 l0_4) (h0_5:Rw (Kd.int .i64) w A0_5 c0_5 l0_5) (h0_6:Rw (Kd.int .i64) w A0_6 c0_6 l0_6) (H:Xe.f k l0_0 l0_1 l0_2 a0_3 l0_4 l0_5 l0_6 a0_7=some r) :
  Calls Tryz.prog 108 #[.agg #[.slice A0_0 l0_0.length c0_0,.slice A0_1 l0_1.length c0_1,.slice A0_2 l0_2.length c0_2,.int .i64 a0_3,.slice A0_4 l0_4.length c0_4,.slice A0_5 l0_5.length c0_5,.slice A0_6 l0_6.length c0_6,.int .i64 a0_7]] w fun e w'=>e = .returned (.bool r)∧Below w.heap.size w w':=by
 have hu43:=Tryz.underlying43
 have hu73:=Tryz.underlying73
 obtain⟨HR0_0,HC0_0⟩:=h0_0
 obtain⟨HR0_1,HC0_1⟩:=h0_1
 obtain⟨HR0_2,HC0_2⟩:=h0_2
 obtain⟨HR0_4,HC0_4⟩:=h0_4
 obtain⟨HR0_5,HC0_5⟩:=h0_5
 obtain⟨HR0_6,HC0_6⟩:=h0_6
 have HB:=aM (Below.refl w.heap.size w)
 unfold Xe.f at H
 have H':=aM H
 clear H
 go_enter Tryz.func108,Tryz.ntmps108
 go_wp2_with (refine boxE 1 #[.slice A0_0 l0_0.length c0_0,.slice A0_1 l0_1.length c0_1,.slice A0_2 l0_2.length c0_2,.int .i64 a0_3,.slice A0_4 l0_4.length c0_4,.slice A0_5 l0_5.length c0_5,.slice A0_6 l0_6.length c0_6,.int .i64 a0_7] 43 ?_;intro gbz1 hg wz1 hbox hb;have BKz1:=aM (hbox);have GWz1:=aG hg HB;replace HB:=aS HB hb;clear hb hbox hg;have hczz1:=cZ8 BKz1.out)
 go_loopg [3,11] k (fun kq v3 v11 w'=>∃ (x3_1:Int) (x11_1:Int),v3 = .int .i64 x3_1∧v11 = .int .i64 x11_1∧Aside0 (Xe.l0 kq x3_1 l0_4 (l0_4.length:Int) x11_1 l0_0 l0_1 l0_2 a0_3 l0_4 l0_5 l0_6 a0_7=some r)∧Aside0 (kq≤k)∧Aside0 (w'.heap[gbz1]? = some (.cells #[(.slice A0_0 l0_0.length c0_0),(.slice A0_1 l0_1.length c0_1),(.slice A0_2 l0_2.length c0_2),.int .i64 a0_3,(.slice A0_4 l0_4.length c0_4),(.slice A0_5 l0_5.length c0_5),(.slice A0_6 l0_6.length c0_6),.int .i64 a0_7] 43 (0,0)))∧Aside0 (Below w.heap.size w w'))
 case atStart=>exact⟨(0),(0),rS,rS,H',⟨Nat.le_refl _⟩,⟨(bX BKz1.out)⟩,⟨(hX HB.out)⟩⟩
 case round =>
  clear H'
  try clear hczz1
  obtain⟨x3_1,x11_1,rfl,rfl,HA,HKy1,BKz1,HB⟩:=hrel
  cases gk with
  | zero=>exact absurd HA.out (by simp[Xe.l0])
  | succ k1 =>
   have H:=HA.out
   clear HA
   simp only[Xe.l0] at H
   revert H;refine iP ?_ ?_<;>intro c4b0 H
   ·replace H:=ifP H;obtain⟨c5,H⟩:=H
    have c5b0:=decide_eq_true c5
    clear c5
    replace H:=ifQ H;obtain⟨c6b0,H⟩:=H
    obtain⟨adx1,Ax1,cx1,ex1,px1,qx1,hxx1,HCx1,HRx1⟩:=at_T73c HR0_4 HB x11_1
    cases ex1
    go_wp2_with (refine boxE 5 #[.int .i64 0,.int .i64 0,.int .i64 0,.int .i64 0,.int .i64 0,.int .i64 0,.int .i64 0,.int .i64 0,.slice none 0 0] 73 ?_;intro gbx1 hg wx1 hbox hb;have BKx1:=aM (hbox);have GWx1:=aG hg HB;have NBx1:=aL hg BKz1;have NBx2:=aR hg BKz1;replace BKz1:=aB BKz1 hb;replace HB:=aS HB hb;clear hb hbox hg;have hnbx1:=nB NBx2 NBx1;have hczx1:=cZ9 BKx1.out;refine Stop.out ?_)
    refine⟨?_⟩
    revert H;refine iN ?_ ?_<;>intro c7b0 H
    ·have H':=aM H
     clear H
     go_wp2
     go_roundg k1
     case measure=>have:=HKy1.out;omega
     case rel=>exact⟨(x3_1),(wrap64 (x11_1+1)),rS,rS,H',⟨by have:=HKy1.out;omega⟩,⟨(bF BKz1.out)⟩,⟨(hX HB.out)⟩⟩
    have H':=aM H
    clear H
    go_wp2
    go_roundg k1
    case measure=>have:=HKy1.out;omega
    case rel=>exact⟨(wrap64 (x3_1+1)),(wrap64 (x11_1+1)),rS,rS,H',⟨by have:=HKy1.out;omega⟩,⟨(bF BKz1.out)⟩,⟨(hX HB.out)⟩⟩
   have H':=aM H
   clear H
   have hczx1:=cZ8 BKz1.out
   go_wp2
   go_loopg [24] k1 (fun kq v24 w'=>∃ (x24_2:Int),v24 = .int .i64 x24_2∧Aside0 (Xe.l1 kq x3_1 l0_5 (l0_5.length:Int) x24_2 l0_0 l0_1 l0_2 a0_3 l0_4 l0_5 l0_6 a0_7=some r)∧Aside0 (kq≤k1)∧Aside0 (w'.heap[gbz1]? = some (.cells #[(.slice A0_0 l0_0.length c0_0),(.slice A0_1 l0_1.length c0_1),(.slice A0_2 l0_2.length c0_2),.int .i64 a0_3,(.slice A0_4 l0_4.length c0_4),(.slice A0_5 l0_5.length c0_5),(.slice A0_6 l0_6.length c0_6),.int .i64 a0_7] 43 (0,0)))∧Aside0 (Below w.heap.size w w'))
   case atStart=>exact⟨(0),rS,H',⟨Nat.le_refl _⟩,⟨(bX BKz1.out)⟩,⟨(hX HB.out)⟩⟩
   case round =>
    clear H'
    try clear c4b0
    try clear hczx1
    try clear hczz1
    obtain⟨x24_2,rfl,HA,HKw1,BKz1,HB⟩:=hrel
    cases gk with
    | zero=>exact absurd HA.out (by simp[Xe.l1])
    | succ k2 =>
     have H:=HA.out
     clear HA
     simp only[Xe.l1] at H
     revert H;refine iN ?_ ?_<;>intro c15b0 H
     ·obtain rfl:=sI H
      have hczv1:=cZ8 BKz1.out
      exact fS
     replace H:=ifQ H;obtain⟨c16b0,H⟩:=H
     replace H:=ifQ H;obtain⟨c17b0,H⟩:=H
     replace H:=bE H;obtain⟨t105,A18,H⟩:=H
     cases t105
     case false =>
      rw[if_neg nft] at H
      obtain rfl:=sI H
      obtain⟨adv1,ev1,pv1,qv1,hxv1⟩:=at_ic HR0_5 HB x24_2
      cases ev1
      try go_wp2
      have hcb0_:=cV8 BKz1.out
      refine sR0 48 Xe.tab11 Xe.bits11 (fun HT_ HW_ hHeld => ?_)
      refine zA 0 ?_
      refine zA 1 ?_
      refine tA 2 ?_
      refine zA 3 ?_
      refine zA 4 ?_
      refine eD 5 Tryz.func102 (Xd.calls _ _ _ _ _ A18.out) (fun nd hHeld => ?_)
      refine zA 6 ?_
      refine zA 7 ?_
      refine uA 8 ?_
      refine uA 9 ?_
      refine uA 10 ?_
      refine uA 11 ?_
      refine uA 12 ?_
      refine uA 13 ?_
      refine uA 14 ?_
      refine zA 15 ?_
      refine zA 16 ?_
      refine uA 17 ?_
      refine uA 18 ?_
      refine uA 19 ?_
      refine uA 20 ?_
      refine uA 21 ?_
      refine uA 22 ?_
      refine zA 23 ?_
      refine zA 24 ?_
      refine uA 25 ?_
      refine uA 26 ?_
      refine uA 27 ?_
      refine uA 28 ?_
      refine uA 29 ?_
      refine uA 30 ?_
      refine uA 31 ?_
      refine uA 32 ?_
      refine uA 33 ?_
      refine uA 34 ?_
      refine uA 35 ?_
      refine uA 36 ?_
      refine uA 37 ?_
      refine uA 38 ?_
      refine uA 39 ?_
      refine uA 40 ?_
      refine uA 41 ?_
      refine uA 42 ?_
      refine uA 43 ?_
      refine uA 44 ?_
      refine uA 45 ?_
      refine uA 46 ?_
      refine zA 47 ?_
      refine dA ?_
      try go_wp2
      go_ret
      exact⟨rE,(hX HB.out)⟩
     rw[if_pos rfl] at H
     replace H:=ifQ H;obtain⟨c20b0,H⟩:=H
     replace H:=ifQ H;obtain⟨c21b0,H⟩:=H
     revert H;refine iP ?_ ?_<;>intro c22b0 H
     ·obtain rfl:=sI H
      obtain⟨adv1,ev1,pv1,qv1,hxv1⟩:=at_ic HR0_5 HB x24_2
      cases ev1
      try go_wp2
      obtain⟨adv2,Av1,cv1,ev2,pv2,qv2,hxv2,HCv1,HRv1⟩:=at_T73c HR0_4 HB (rd l0_5 x24_2)
      cases ev2
      have hcb0_:=cV8 BKz1.out
      refine sR0 48 Xe.tab11 Xe.bits11 (fun HT_ HW_ hHeld => ?_)
      refine zA 0 ?_
      refine zA 1 ?_
      refine tA 2 ?_
      refine zA 3 ?_
      refine zA 4 ?_
      refine eD 5 Tryz.func102 (Xd.calls _ _ _ _ _ A18.out) (fun nd hHeld => ?_)
      refine zA 6 ?_
      refine zA 7 ?_
      refine zA 8 ?_
      refine zA 10 ?_
      refine tA 9 ?_
      refine zA 11 ?_
      refine zA 12 ?_
      refine tA 13 ?_
      refine zA 14 ?_
      refine zA 15 ?_
      refine zA 16 ?_
      refine uA 17 ?_
      refine uA 18 ?_
      refine uA 19 ?_
      refine uA 20 ?_
      refine uA 21 ?_
      refine uA 22 ?_
      refine zA 23 ?_
      refine zA 24 ?_
      refine uA 25 ?_
      refine uA 26 ?_
      refine uA 27 ?_
      refine uA 28 ?_
      refine uA 29 ?_
      refine uA 30 ?_
      refine uA 31 ?_
      refine uA 32 ?_
      refine uA 33 ?_
      refine uA 34 ?_
      refine uA 35 ?_
      refine uA 36 ?_
      refine uA 37 ?_
      refine uA 38 ?_
      refine uA 39 ?_
      refine uA 40 ?_
      refine uA 41 ?_
      refine uA 42 ?_
      refine uA 43 ?_
      refine uA 44 ?_
      refine uA 45 ?_
      refine uA 46 ?_
      refine zA 47 ?_
      refine dA ?_
      try go_wp2
      go_ret
      exact⟨rE,(hX HB.out)⟩
     have c24b0:=eq_true (odA:0≤x24_2)
     replace H:=ifP H;obtain⟨c25,H⟩:=H
     have c25b0:=eq_true c25
     have c25b1:=decide_eq_true c25
     clear c25
     replace H:=bE H;obtain⟨t108,A26,H⟩:=H
     cases t108
     case true =>
      rw[if_pos rfl] at H
      obtain rfl:=sI H
      obtain⟨adv1,ev1,pv1,qv1,hxv1⟩:=at_ic HR0_5 HB x24_2
      cases ev1
      try go_wp2
      obtain⟨adv2,Av1,cv1,ev2,pv2,qv2,hxv2,HCv1,HRv1⟩:=at_T73c HR0_4 HB (rd l0_5 x24_2)
      cases ev2
      have hcb0_:=cV8 BKz1.out
      refine sR0 48 Xe.tab11 Xe.bits11 (fun HT_ HW_ hHeld => ?_)
      refine zA 0 ?_
      refine zA 1 ?_
      refine tA 2 ?_
      refine zA 3 ?_
      refine zA 4 ?_
      refine eD 5 Tryz.func102 (Xd.calls _ _ _ _ _ A18.out) (fun nd hHeld => ?_)
      obtain⟨iv1,hiv2,_,hszv1,_⟩:=info_parts info3
      obtain⟨hcutv1,hAv1,hCv1⟩:=print_take_of (P:=Tryz.prog) (Value.int .i64) 0 28 3 .i64 Tryz.underlying28 hiv2 hszv1 (some adv1) c0_5 l0_5 x24_2 (odA) (odA) HC0_5.out
      have HRv2:=aM (Kd.C_of_reads (h1:=fun _=>rfl) (hAv1 _ (Kd.reads_of_C HR0_5.out)))
      have HCv2:=aM hCv1
      clear hAv1 hCv1 hiv2 hszv1
      refine zA 6 ?_
      refine zA 7 ?_
      refine zA 8 ?_
      refine zA 10 ?_
      refine tA 9 ?_
      refine zA 11 ?_
      refine zA 12 ?_
      refine tA 13 ?_
      refine zA 14 ?_
      refine zA 15 ?_
      refine zA 16 ?_
      refine zA 17 ?_
      refine zA 19 ?_
      refine zA 21 ?_
      refine tA 18 ?_
      refine zA 20 ?_
      refine oA 22 (fun K hK => ?_)
      refine goes_ Tryz.func175 (by kernel_rfl) rfl #[.slice (some adv1) (l0_5.take (x24_2:Int).toNat).length c0_5,.int .i64 (rd l0_5 x24_2)] (by rfl) rfl rfl (by (try simp only[List.map_toArray,List.map_cons,List.map_nil]);first | done | (rw[show (l0_5.take (x24_2:Int).toNat).length=x24_2.toNat from (by rw[List.length_take];have h_:(x24_2:Int)≤(l0_5.length:Int):=odA;omega)]<;>rfl) | rfl | (simp only[List.length_drop,List.length_take];rfl)) ?_
      refine(slices_Contains_int_int.calls _ _ _ _ _ _ _ (cC HRv2.out HB.out) HCv2.out A26.out).mono ?_
      rintro e w' ⟨rfl,⟨nd,rfl⟩⟩
      refine⟨_,rfl,?_⟩
      refine hK.out _ _ (bDN hHeld _) (fun hHeld => ?_)
      clear hK K
      refine nZ 51 ?_
      refine zA 23 ?_
      refine zA 24 ?_
      refine uA 25 ?_
      refine uA 26 ?_
      refine uA 27 ?_
      refine uA 28 ?_
      refine uA 29 ?_
      refine uA 30 ?_
      refine uA 31 ?_
      refine uA 32 ?_
      refine uA 33 ?_
      refine uA 34 ?_
      refine uA 35 ?_
      refine uA 36 ?_
      refine uA 37 ?_
      refine uA 38 ?_
      refine uA 39 ?_
      refine uA 40 ?_
      refine uA 41 ?_
      refine uA 42 ?_
      refine uA 43 ?_
      refine uA 44 ?_
      refine uA 45 ?_
      refine uA 46 ?_
      refine zA 47 ?_
      refine dA ?_
      try go_wp2
      go_ret
      exact⟨rE,(hX HB.out)⟩
     rw[if_neg nft] at H
     revert H;refine iN ?_ ?_<;>intro c30b0 H
     ·have H':=aM H
      clear H
      obtain⟨adv1,ev1,pv1,qv1,hxv1⟩:=at_ic HR0_5 HB x24_2
      cases ev1
      try go_wp2
      obtain⟨adv2,Av1,cv1,ev2,pv2,qv2,hxv2,HCv1,HRv1⟩:=at_T73c HR0_4 HB (rd l0_5 x24_2)
      cases ev2
      have hcb0_:=cV8 BKz1.out
      refine sR0 48 Xe.tab11 Xe.bits11 (fun HT_ HW_ hHeld => ?_)
      refine zA 0 ?_
      refine zA 1 ?_
      refine tA 2 ?_
      refine zA 3 ?_
      refine zA 4 ?_
      refine eD 5 Tryz.func102 (Xd.calls _ _ _ _ _ A18.out) (fun nd hHeld => ?_)
      obtain⟨iv1,hiv2,_,hszv1,_⟩:=info_parts info3
      obtain⟨hcutv1,hAv1,hCv1⟩:=print_take_of (P:=Tryz.prog) (Value.int .i64) 0 28 3 .i64 Tryz.underlying28 hiv2 hszv1 (some adv1) c0_5 l0_5 x24_2 (odA) (odA) HC0_5.out
      have HRv2:=aM (Kd.C_of_reads (h1:=fun _=>rfl) (hAv1 _ (Kd.reads_of_C HR0_5.out)))
      have HCv2:=aM hCv1
      clear hAv1 hCv1 hiv2 hszv1
      refine zA 6 ?_
      refine zA 7 ?_
      refine zA 8 ?_
      refine zA 10 ?_
      refine tA 9 ?_
      refine zA 11 ?_
      refine zA 12 ?_
      refine tA 13 ?_
      refine zA 14 ?_
      refine zA 15 ?_
      refine zA 16 ?_
      refine zA 17 ?_
      refine zA 19 ?_
      refine zA 21 ?_
      refine tA 18 ?_
      refine zA 20 ?_
      refine oA 22 (fun K hK => ?_)
      refine goes_ Tryz.func175 (by kernel_rfl) rfl #[.slice (some adv1) (l0_5.take (x24_2:Int).toNat).length c0_5,.int .i64 (rd l0_5 x24_2)] (by rfl) rfl rfl (by (try simp only[List.map_toArray,List.map_cons,List.map_nil]);first | done | (rw[show (l0_5.take (x24_2:Int).toNat).length=x24_2.toNat from (by rw[List.length_take];have h_:(x24_2:Int)≤(l0_5.length:Int):=odA;omega)]<;>rfl) | rfl | (simp only[List.length_drop,List.length_take];rfl)) ?_
      refine(slices_Contains_int_int.calls _ _ _ _ _ _ _ (cC HRv2.out HB.out) HCv2.out A26.out).mono ?_
      rintro e w' ⟨rfl,⟨nd,rfl⟩⟩
      refine⟨_,rfl,?_⟩
      refine hK.out _ _ (bDN hHeld _) (fun hHeld => ?_)
      clear hK K
      refine nZ 51 ?_
      refine zA 23 ?_
      refine zA 24 ?_
      refine zA 25 ?_
      refine zA 26 ?_
      refine zA 27 ?_
      refine uA 28 ?_
      refine uA 29 ?_
      refine uA 30 ?_
      refine uA 31 ?_
      refine uA 32 ?_
      refine uA 33 ?_
      refine uA 34 ?_
      refine uA 35 ?_
      refine uA 36 ?_
      refine uA 37 ?_
      refine uA 38 ?_
      refine uA 39 ?_
      refine uA 40 ?_
      refine uA 41 ?_
      refine uA 42 ?_
      refine uA 43 ?_
      refine uA 44 ?_
      refine uA 45 ?_
      refine zA 46 ?_
      refine zA 47 ?_
      refine dA ?_
      try go_wp2
      go_roundg k2
      case measure=>have:=HKy1.out;have:=HKw1.out;omega
      case rel=>exact⟨(wrap64 (x24_2+1)),rS,H',⟨by have:=HKy1.out;have:=HKw1.out;omega⟩,⟨(bX BKz1.out)⟩,⟨(hX HB.out)⟩⟩
     obtain⟨ji31,hji31⟩:∃ j_:Int,(wrap64 (x24_2 - 1))=j_:=⟨_,rfl⟩
     replace H:(if 0≤(ji31) then (if (ji31)<(l0_5.length:Int) then (if 0≤(rd l0_5 (ji31)) then (if (rd l0_5 (ji31))<(l0_4.length:Int) then (if ((rd_T73 l0_4 (rd l0_5 (ji31))).f3) > ((rd_T73 l0_4 (rd l0_5 x24_2)).f3) then (some false) else (Xe.l1 k2 x3_1 l0_5 (l0_5.length:Int) (wrap64 (x24_2+1)) l0_0 l0_1 l0_2 a0_3 l0_4 l0_5 l0_6 a0_7)) else (none)) else (none)) else (none)) else (none))=some r:=by first | (rw[hji31] at H;exact H) | (simp only[hji31] at H ⊢;exact H)
     (try rw[hji31] at A18)
     (try rw[hji31] at A26)
     have hji31w:(IntKind.i64.wrap (x24_2 - 1))=ji31:=(i64_w _).trans hji31
     replace H:=ifQ H;obtain⟨c32b0,H⟩:=H
     replace H:=ifQ H;obtain⟨c33b0,H⟩:=H
     replace H:=ifQ H;obtain⟨c34b0,H⟩:=H
     replace H:=ifQ H;obtain⟨c35b0,H⟩:=H
     revert H;refine iP ?_ ?_<;>intro c36b0 H
     ·obtain rfl:=sI H
      obtain⟨adv1,ev1,pv1,qv1,hxv1⟩:=at_ic HR0_5 HB x24_2
      cases ev1
      try go_wp2
      obtain⟨adv2,Av1,cv1,ev2,pv2,qv2,⟨hxv2,hxv3,hxv4,hxv5,hxv6,hxv7,hxv8,hxv9,hxv10⟩,HCv1,HRv1⟩:=at_T73c HR0_4 HB (rd l0_5 x24_2)
      cases ev2
      obtain⟨adv3,ev3,pv3,qv3,hxv11⟩:=at_ic HR0_5 HB (ji31)
      obtain rfl:adv1=adv3:=(by injection ev3)
      obtain⟨adv4,Av2,cv2,ev4,pv4,qv4,hxv12,HCv2,HRv2⟩:=at_T73c HR0_4 HB (rd l0_5 (ji31))
      obtain rfl:adv2=adv4:=(by injection ev4)
      obtain⟨adv5,Av3,cv3,ev5,pv5,qv5,⟨hxv21,hxv22,hxv23,hxv24,hxv25,hxv26,hxv27,hxv28,hxv29⟩,HCv3,HRv3⟩:=at_T73c HR0_4 HB (rd l0_5 x24_2)
      obtain rfl:adv2=adv5:=(by injection ev5)
      have ea_:=Option.some.inj (hxv10.symm.trans hxv29)
      injection ea_ with ea_ en_ ec_
      subst ea_
      subst ec_
      clear en_
      have hcb0_:=cV8 BKz1.out
      refine sR0 48 Xe.tab11 Xe.bits11 (fun HT_ HW_ hHeld => ?_)
      refine zA 0 ?_
      refine zA 1 ?_
      refine tA 2 ?_
      refine zA 3 ?_
      refine zA 4 ?_
      refine eD 5 Tryz.func102 (Xd.calls _ _ _ _ _ A18.out) (fun nd hHeld => ?_)
      obtain⟨iv1,hiv4,_,hszv1,_⟩:=info_parts info3
      obtain⟨hcutv1,hAv1,hCv1⟩:=print_take_of (P:=Tryz.prog) (Value.int .i64) 0 28 3 .i64 Tryz.underlying28 hiv4 hszv1 (some adv1) c0_5 l0_5 x24_2 (odA) (odA) HC0_5.out
      have HRv4:=aM (Kd.C_of_reads (h1:=fun _=>rfl) (hAv1 _ (Kd.reads_of_C HR0_5.out)))
      have HCv4:=aM hCv1
      clear hAv1 hCv1 hiv4 hszv1
      refine zA 6 ?_
      refine zA 7 ?_
      refine zA 8 ?_
      refine zA 10 ?_
      refine tA 9 ?_
      refine zA 11 ?_
      refine zA 12 ?_
      refine tA 13 ?_
      refine zA 14 ?_
      refine zA 15 ?_
      refine zA 16 ?_
      refine zA 17 ?_
      refine zA 19 ?_
      refine zA 21 ?_
      refine tA 18 ?_
      refine zA 20 ?_
      refine oA 22 (fun K hK => ?_)
      refine goes_ Tryz.func175 (by kernel_rfl) rfl #[.slice (some adv1) (l0_5.take (x24_2:Int).toNat).length c0_5,.int .i64 (rd l0_5 x24_2)] (by rfl) rfl rfl (by (try simp only[List.map_toArray,List.map_cons,List.map_nil]);first | done | (rw[show (l0_5.take (x24_2:Int).toNat).length=x24_2.toNat from (by rw[List.length_take];have h_:(x24_2:Int)≤(l0_5.length:Int):=odA;omega)]<;>rfl) | rfl | (simp only[List.length_drop,List.length_take];rfl)) ?_
      refine(slices_Contains_int_int.calls _ _ _ _ _ _ _ (cC HRv4.out HB.out) HCv4.out A26.out).mono ?_
      rintro e w' ⟨rfl,⟨nd,rfl⟩⟩
      refine⟨_,rfl,?_⟩
      refine hK.out _ _ (bDN hHeld _) (fun hHeld => ?_)
      clear hK K
      refine nZ 51 ?_
      refine zA 23 ?_
      refine zA 24 ?_
      refine zA 25 ?_
      refine zA 26 ?_
      refine zA 27 ?_
      refine zA 28 ?_
      refine zA 30 ?_
      refine zA 32 ?_
      refine zA 33 ?_
      refine zA 39 ?_
      refine zA 41 ?_
      refine tA 29 ?_
      refine tA 31 ?_
      refine zA 34 ?_
      refine tA 35 ?_
      refine zA 36 ?_
      refine zA 37 ?_
      refine tA 38 ?_
      refine tA 40 ?_
      refine zA 42 ?_
      refine zA 43 ?_
      refine tA 44 ?_
      refine zA 45 ?_
      refine zA 46 ?_
      refine zA 47 ?_
      refine dA ?_
      try go_wp2
      go_ret
      exact⟨by first | rfl | (simp[errW_none,errW_some]<;>rfl) | (simp only[← hji31];first | rfl | (simp[errW_none,errW_some]<;>rfl)) | (simp[*,errW_none,errW_some]<;>rfl),(hX HB.out)⟩
     have H':=aM H
     clear H
     obtain⟨adv1,ev1,pv1,qv1,hxv1⟩:=at_ic HR0_5 HB x24_2
     cases ev1
     try go_wp2
     obtain⟨adv2,Av1,cv1,ev2,pv2,qv2,⟨hxv2,hxv3,hxv4,hxv5,hxv6,hxv7,hxv8,hxv9,hxv10⟩,HCv1,HRv1⟩:=at_T73c HR0_4 HB (rd l0_5 x24_2)
     cases ev2
     obtain⟨adv3,ev3,pv3,qv3,hxv11⟩:=at_ic HR0_5 HB (ji31)
     obtain rfl:adv1=adv3:=(by injection ev3)
     obtain⟨adv4,Av2,cv2,ev4,pv4,qv4,hxv12,HCv2,HRv2⟩:=at_T73c HR0_4 HB (rd l0_5 (ji31))
     obtain rfl:adv2=adv4:=(by injection ev4)
     obtain⟨adv5,Av3,cv3,ev5,pv5,qv5,⟨hxv21,hxv22,hxv23,hxv24,hxv25,hxv26,hxv27,hxv28,hxv29⟩,HCv3,HRv3⟩:=at_T73c HR0_4 HB (rd l0_5 x24_2)
     obtain rfl:adv2=adv5:=(by injection ev5)
     have ea_:=Option.some.inj (hxv10.symm.trans hxv29)
     injection ea_ with ea_ en_ ec_
     subst ea_
     subst ec_
     clear en_
     have hcb0_:=cV8 BKz1.out
     refine sR0 48 Xe.tab11 Xe.bits11 (fun HT_ HW_ hHeld => ?_)
     refine zA 0 ?_
     refine zA 1 ?_
     refine tA 2 ?_
     refine zA 3 ?_
     refine zA 4 ?_
     refine eD 5 Tryz.func102 (Xd.calls _ _ _ _ _ A18.out) (fun nd hHeld => ?_)
     obtain⟨iv1,hiv4,_,hszv1,_⟩:=info_parts info3
     obtain⟨hcutv1,hAv1,hCv1⟩:=print_take_of (P:=Tryz.prog) (Value.int .i64) 0 28 3 .i64 Tryz.underlying28 hiv4 hszv1 (some adv1) c0_5 l0_5 x24_2 (odA) (odA) HC0_5.out
     have HRv4:=aM (Kd.C_of_reads (h1:=fun _=>rfl) (hAv1 _ (Kd.reads_of_C HR0_5.out)))
     have HCv4:=aM hCv1
     clear hAv1 hCv1 hiv4 hszv1
     refine zA 6 ?_
     refine zA 7 ?_
     refine zA 8 ?_
     refine zA 10 ?_
     refine tA 9 ?_
     refine zA 11 ?_
     refine zA 12 ?_
     refine tA 13 ?_
     refine zA 14 ?_
     refine zA 15 ?_
     refine zA 16 ?_
     refine zA 17 ?_
     refine zA 19 ?_
     refine zA 21 ?_
     refine tA 18 ?_
     refine zA 20 ?_
     refine oA 22 (fun K hK => ?_)
     refine goes_ Tryz.func175 (by kernel_rfl) rfl #[.slice (some adv1) (l0_5.take (x24_2:Int).toNat).length c0_5,.int .i64 (rd l0_5 x24_2)] (by rfl) rfl rfl (by (try simp only[List.map_toArray,List.map_cons,List.map_nil]);first | done | (rw[show (l0_5.take (x24_2:Int).toNat).length=x24_2.toNat from (by rw[List.length_take];have h_:(x24_2:Int)≤(l0_5.length:Int):=odA;omega)]<;>rfl) | rfl | (simp only[List.length_drop,List.length_take];rfl)) ?_
     refine(slices_Contains_int_int.calls _ _ _ _ _ _ _ (cC HRv4.out HB.out) HCv4.out A26.out).mono ?_
     rintro e w' ⟨rfl,⟨nd,rfl⟩⟩
     refine⟨_,rfl,?_⟩
     refine hK.out _ _ (bDN hHeld _) (fun hHeld => ?_)
     clear hK K
     refine nZ 51 ?_
     refine zA 23 ?_
     refine zA 24 ?_
     refine zA 25 ?_
     refine zA 26 ?_
     refine zA 27 ?_
     refine zA 28 ?_
     refine zA 30 ?_
     refine zA 32 ?_
     refine zA 33 ?_
     refine zA 39 ?_
     refine zA 41 ?_
     refine tA 29 ?_
     refine tA 31 ?_
     refine zA 34 ?_
     refine tA 35 ?_
     refine zA 36 ?_
     refine zA 37 ?_
     refine tA 38 ?_
     refine tA 40 ?_
     refine zA 42 ?_
     refine zA 43 ?_
     refine tA 44 ?_
     refine zA 45 ?_
     refine zA 46 ?_
     refine zA 47 ?_
     refine dA ?_
     try go_wp2
     go_roundg k2
     case measure=>have:=HKy1.out;have:=HKw1.out;omega
     case rel=>exact⟨(wrap64 (x24_2+1)),rS,H',⟨by have:=HKy1.out;have:=HKw1.out;omega⟩,⟨(bX BKz1.out)⟩,⟨(hX HB.out)⟩⟩
mutual
def Xj.j0:Nat→Int→Int→Bool→List Int→Int→Int→Int→Int→Option (Bool)
 | 0,_,_,_,_,_,_,_,_=>none
 | k+1,x2,x7,x42,x102000,x102001,x103000,x103001,x103002=>if x42=true then (if 0≤x103001 then (if x103001<(x102000.length:Int) then (some ((rd x102000 x103001) == 0)) else (none)) else (none)) else (if x2=3 then (if x7<0 then (if x103000=5 then (some true) else (if x103000=10 then ((Xak.f x102000 x102001).bind fun t106=>(some t106)) else (some false))) else (some false)) else (if x2=4 then (Xj.j1 k x2 (x103000 == 8) x102000 x102001 x103000 x103001 x103002) else (Xj.j1 k x2 false x102000 x102001 x103000 x103001 x103002)))
def Xj.j1:Nat→Int→Bool→List Int→Int→Int→Int→Int→Option (Bool)
 | 0,_,_,_,_,_,_,_=>none
 | k+1,x2,x86,x102000,x102001,x103000,x103001,x103002=>if x86=true then (some (x102001 != 0)) else (if x2=4 then (Xj.j2 k x2 (x103000 == 9) x102000 x102001 x103000 x103001 x103002) else (Xj.j2 k x2 false x102000 x102001 x103000 x103001 x103002))
def Xj.j2:Nat→Int→Bool→List Int→Int→Int→Int→Int→Option (Bool)
 | 0,_,_,_,_,_,_,_=>none
 | k+1,x2,x97,x102000,x102001,x103000,x103001,x103002=>if x97=true then (if x102001=0 then (some true) else ((Xak.f x102000 x102001).bind fun t107=>(some t107))) else (if x2=4 then (if x103000=10 then ((Xak.f x102000 x102001).bind fun t108=>(some (!t108))) else (some false)) else (some false))
end
def Xj.f (k:Nat) (l0_0:List Int) (a0_1:Int) (a1_0:Int) (a1_1:Int) (a1_2:Int) (a2:Int):Option (Bool):=(Xab.f k l0_0 a0_1 a1_2).bind fun t103=>(if a2=1 then (if a1_0=1 then (if 0≤a1_1 then (if a1_1<(l0_0.length:Int) then (some ((rd l0_0 a1_1) != 0)) else (none)) else (none)) else (some false)) else (if a2=2 then (if a1_0=1 then (some (decide (t103 ≥ 0))) else (if a1_0=2 then (some (decide (t103 ≥ 0))) else (some false))) else (if a2=3 then (if a1_0=2 then (Xj.j0 k a2 t103 true l0_0 a0_1 a1_0 a1_1 a1_2) else (if a1_0=3 then (Xj.j0 k a2 t103 true l0_0 a0_1 a1_0 a1_1 a1_2) else (Xj.j0 k a2 t103 (a1_0 == 4) l0_0 a0_1 a1_0 a1_1 a1_2))) else (Xj.j0 k a2 t103 false l0_0 a0_1 a1_0 a1_1 a1_2))))
theorem Xj.calls (k:Nat) (A0_0:Option Addr) (c0_0:Nat) (l0_0:List Int) (a0_1:Int) (a1_0:Int) (a1_1:Int) (a1_2:Int) (a2:Int) (r:Bool) (w:World) (h0_0:Rw (Kd.int .i64) w A0_0 c0_0 l0_0) (H:Xj.f k l0_0 a0_1 a1_0 a1_1 a1_2 a2=some r) :
  Calls Tryz.prog 141 #[.agg #[.slice A0_0 l0_0.length c0_0,.int .i64 a0_1],.agg #[.int .i64 a1_0,.int .i64 a1_1,.int .i64 a1_2],.int .i64 a2] w fun e w'=>e = .returned (.bool r)∧Below w.heap.size w w':=by
 have hu41:=Tryz.underlying41
 have hu69:=Tryz.underlying69
 obtain⟨HR0_0,HC0_0⟩:=h0_0
 have HB:=aM (Below.refl w.heap.size w)
 unfold Xj.f at H
 replace H:=bE H;obtain⟨t103,A4,H⟩:=H
 go_enter Tryz.func141,Tryz.ntmps141
 revert H;refine eP ?_ ?_<;>intro c5b0 c5b1 H
 ·go_wp2_with (first | (refine boxE 3 #[.slice A0_0 l0_0.length c0_0,.int .i64 a0_1] 41 ?_;intro gbz1 hg wz1 hbox hb;have BKz1:=aM (hbox);have GWz1:=aG hg HB;have GEz1:=aG hg HB;replace HB:=aS HB hb;clear hb hbox hg) | (refine boxE 4 #[.int .i64 a1_0,.int .i64 a1_1,.int .i64 a1_2] 69 ?_;intro gbz2 hg wz2 hbox hb;have BKz2:=aM (hbox);have GWz2:=aG hg HB;have GEz2:=aG hg HB;have NBz1:=aL hg BKz1;have NBz2:=aR hg BKz1;replace BKz1:=aB BKz1 hb;replace HB:=aS HB hb;clear hb hbox hg;have hnbz1:=NBz1.out;have hncz1:=NBz2.out;have hczz1:=cZ2 BKz1.out;have hczz3:=cZ3 BKz2.out;refine Stop.out ?_))
  refine⟨?_⟩
  revert H;refine eN ?_ ?_<;>intro c6b0 c6b1 H
  ·obtain rfl:=sI H
   go_wp2_with (refine gB 199 11 Tryz.func199 (Xab.calls _ _ _ _ _ _ _ _ (rW HR0_0 HB HC0_0) A4.out) ?_;intro wz3 hb;replace BKz1:=aB BKz1 hb;replace BKz2:=aB BKz2 hb;replace HB:=aS HB hb;clear hb;have hczz6:=cZ3 BKz2.out)
   go_ret
   exact⟨rE,(hX HB.out)⟩
  replace H:=ifQ H;obtain⟨c7b0,H⟩:=H
  replace H:=ifQ H;obtain⟨c8b0,H⟩:=H
  obtain rfl:=sI H
  go_wp2_with (refine gB 199 11 Tryz.func199 (Xab.calls _ _ _ _ _ _ _ _ (rW HR0_0 HB HC0_0) A4.out) ?_;intro wz3 hb;replace BKz1:=aB BKz1 hb;replace BKz2:=aB BKz2 hb;replace HB:=aS HB hb;clear hb;have hczz6:=cZ3 BKz2.out;have hczz9:=cZ2 BKz1.out;have pz1:0≤(a1_1:Int):=odA;have qz1:a1_1<(l0_0.length:Int):=odA;obtain⟨adz1,ez1,hxz1⟩:=Kd.at_int HR0_0.out a1_1 pz1 qz1;cases ez1;replace hxz1:=bc HB.out hxz1;replace pz1:=eq_true pz1;replace qz1:=eq_true qz1)
  go_ret
  exact⟨rE,(hX HB.out)⟩
 revert H;refine eP ?_ ?_<;>intro c24b0 c24b1 H
 ·go_wp2_with (first | (refine boxE 3 #[.slice A0_0 l0_0.length c0_0,.int .i64 a0_1] 41 ?_;intro gbz1 hg wz1 hbox hb;have BKz1:=aM (hbox);have GWz1:=aG hg HB;have GEz1:=aG hg HB;replace HB:=aS HB hb;clear hb hbox hg) | (refine boxE 4 #[.int .i64 a1_0,.int .i64 a1_1,.int .i64 a1_2] 69 ?_;intro gbz2 hg wz2 hbox hb;have BKz2:=aM (hbox);have GWz2:=aG hg HB;have GEz2:=aG hg HB;have NBz1:=aL hg BKz1;have NBz2:=aR hg BKz1;replace BKz1:=aB BKz1 hb;replace HB:=aS HB hb;clear hb hbox hg;have hnbz1:=NBz1.out;have hncz1:=NBz2.out;have hczz1:=cZ2 BKz1.out;have hczz3:=cZ3 BKz2.out) | (refine gB 199 11 Tryz.func199 (Xab.calls _ _ _ _ _ _ _ _ (rW HR0_0 HB HC0_0) A4.out) ?_;intro wz3 hb;replace BKz1:=aB BKz1 hb;replace BKz2:=aB BKz2 hb;replace HB:=aS HB hb;clear hb;have hczz6:=cZ3 BKz2.out;refine Stop.out ?_))
  refine⟨?_⟩
  revert H;refine eP ?_ ?_<;>intro c25b0 c25b1 H
  ·obtain rfl:=sI H
   exact fS
  revert H;refine eN ?_ ?_<;>intro c33b0 c33b1 H
  ·obtain rfl:=sI H
   exact fS
  exact fR
 have HC48:=aM H
 clear H
 go_upto_region 6 with(first | ((with_reducible refine gate_dst (N:=3) rfl ?_);refine boxE 3 #[.slice A0_0 l0_0.length c0_0,.int .i64 a0_1] 41 ?_;intro gbz1 hg wz1 hbox hb;have BKz1:=aM (hbox);have GWz1:=aG hg HB;have GEz1:=aG hg HB;replace HB:=aS HB hb;clear hb hbox hg) | ((with_reducible refine gate_dst (N:=4) rfl ?_);refine boxE 4 #[.int .i64 a1_0,.int .i64 a1_1,.int .i64 a1_2] 69 ?_;intro gbz2 hg wz2 hbox hb;have BKz2:=aM (hbox);have GWz2:=aG hg HB;have GEz2:=aG hg HB;have NBz1:=aL hg BKz1;have NBz2:=aR hg BKz1;replace BKz1:=aB BKz1 hb;replace HB:=aS HB hb;clear hb hbox hg;have hnbz1:=NBz1.out;have hncz1:=NBz2.out;have hczz1:=cZ2 BKz1.out;have hczz3:=cZ3 BKz2.out) | ((with_reducible refine gate_callee (f:=199) rfl ?_);refine gB 199 11 Tryz.func199 (Xab.calls _ _ _ _ _ _ _ _ (rW HR0_0 HB HC0_0) A4.out) ?_;intro wz3 hb;replace BKz1:=aB BKz1 hb;replace BKz2:=aB BKz2 hb;replace HB:=aS HB hb;clear hb))
 (try simp only[Act.put,List.setIfInBounds_toArray,List.set_cons_zero,List.set_cons_succ])
 go_cut [42] (fun vz1 wc=>∃ (kq:Nat) (x42_47:Bool),vz1 = .bool x42_47∧Aside0 (Xj.j0 kq a2 t103 x42_47 l0_0 a0_1 a1_0 a1_1 a1_2=some r)∧Aside0 (kq≤k)∧Aside0 (wc.heap[gbz1]? = some (.cells #[(.slice A0_0 l0_0.length c0_0),.int .i64 a0_1] 41 (0,0)))∧Aside0 (wc.heap[gbz2]? = some (.cells #[.int .i64 a1_0,.int .i64 a1_1,.int .i64 a1_2] 69 (0,0)))∧Aside0 (Below w.heap.size w wc))
 case first =>
  have H:=HC48.out
  clear HC48
  revert H;refine eN ?_ ?_<;>intro c55b0 c55b1 H
  ·(first | rw[c55b0] | (simp only[i64_w,i32_w];rw[c55b0]) | skip)
   have H':=aM H
   clear H
   go_wp2
   go_meet
   case rel=>exact⟨_,(false),rS,H',⟨by first | omega | exact Nat.le_refl _⟩,⟨(bX BKz1.out)⟩,⟨(bX BKz2.out)⟩,⟨(hX HB.out)⟩⟩
  (first | rw[c55b0] | (simp only[i64_w,i32_w];rw[c55b0]) | skip)
  revert H;refine eP ?_ ?_<;>intro c56b0 c56b1 H
  ·have H':=aM H
   clear H
   have hnby1:=NBz2.out
   have hncy1:=NBz1.out
   have hczy1:=cZ3 BKz2.out
   go_wp2
   go_meet
   case rel=>exact⟨_,(true),rS,H',⟨by first | omega | exact Nat.le_refl _⟩,⟨(bX BKz1.out)⟩,⟨(bX BKz2.out)⟩,⟨(hX HB.out)⟩⟩
  revert H;refine eN ?_ ?_<;>intro c59b0 c59b1 H
  ·have H':=aM H
   clear H
   have hnby1:=NBz2.out
   have hncy1:=NBz1.out
   have hczy1:=cZ3 BKz2.out
   go_wp2
   go_meet
   case rel=>exact⟨_,((a1_0 == 4)),rS,H',⟨by first | omega | exact Nat.le_refl _⟩,⟨(bX BKz1.out)⟩,⟨(bX BKz2.out)⟩,⟨(hX HB.out)⟩⟩
  have H':=aM H
  clear H
  have hnby1:=NBz2.out
  have hncy1:=NBz1.out
  have hczy1:=cZ3 BKz2.out
  go_wp2
  go_meet
  case rel=>exact⟨_,(true),rS,H',⟨by first | omega | exact Nat.le_refl _⟩,⟨(bX BKz1.out)⟩,⟨(bX BKz2.out)⟩,⟨(hX HB.out)⟩⟩
 case rest =>
  clear HC48
  try clear c5b0
  try clear c5b1
  try clear c24b0
  try clear c24b1
  try clear hczz1
  try clear hczz3
  obtain⟨kq,x42_47,rfl,HA,HJy1,BKz1,BKz2,HB⟩:=hcut
  cases kq with
  | zero=>exact absurd HA.out (by simp[Xj.j0])
  | succ kj47 =>
   have H:=HA.out
   clear HA
   simp only[Xj.j0] at H
   cases x42_47
   case true =>
    rw[if_pos rfl] at H
    replace H:=ifQ H;obtain⟨c65b0,H⟩:=H
    replace H:=ifQ H;obtain⟨c66b0,H⟩:=H
    obtain rfl:=sI H
    have hnbx1:=NBz1.out
    have hncx1:=NBz2.out
    have hczx1:=cZ2 BKz1.out
    have hczx3:=cZ3 BKz2.out
    obtain⟨adx1,ex1,px1,qx1,hxx1⟩:=at_ic HR0_0 HB a1_1
    cases ex1
    exact fS
   rw[if_neg nft] at H
   revert H;refine eP ?_ ?_<;>intro c70b0 c70b1 H
   ·revert H;refine iN ?_ ?_<;>intro c71b0 H
    ·obtain rfl:=sI H
     exact fS
    revert H;refine eP ?_ ?_<;>intro c72b0 c72b1 H
    ·obtain rfl:=sI H
     have hnbx1:=NBz2.out
     have hncx1:=NBz1.out
     have hczx1:=cZ3 BKz2.out
     exact fS
    revert H;refine eN ?_ ?_<;>intro c75b0 c75b1 H
    ·obtain rfl:=sI H
     have hnbx1:=NBz2.out
     have hncx1:=NBz1.out
     have hczx1:=cZ3 BKz2.out
     exact fS
    replace H:=bE H;obtain⟨t106,A76,H⟩:=H
    obtain rfl:=sI H
    have hnbx1:=NBz2.out
    have hncx1:=NBz1.out
    have hczx1:=cZ3 BKz2.out
    have hczx4:=cZ2 BKz1.out
    go_wp2_with (go_at_call 200;(with_reducible refine(Xak.calls _ _ _ _ _ _ (rW HR0_0 HB HC0_0) A76.out).mono ?_);rintro e wx1 ⟨rfl,hb⟩;replace BKz1:=aB BKz1 hb;replace BKz2:=aB BKz2 hb;replace HB:=aS HB hb;clear hb)
    go_ret
    exact⟨rE,(hX HB.out)⟩
   have HC83:=aM H
   clear H
   go_upto_region 10 with(fail)
   go_cut [86] (fun vx1 wc=>∃ (kq:Nat) (x86_82:Bool),vx1 = .bool x86_82∧Aside0 (Xj.j1 kq a2 x86_82 l0_0 a0_1 a1_0 a1_1 a1_2=some r)∧Aside0 (kq≤kj47)∧Aside0 (wc.heap[gbz1]? = some (.cells #[(.slice A0_0 l0_0.length c0_0),.int .i64 a0_1] 41 (0,0)))∧Aside0 (wc.heap[gbz2]? = some (.cells #[.int .i64 a1_0,.int .i64 a1_1,.int .i64 a1_2] 69 (0,0)))∧Aside0 (Below w.heap.size w wc))
   case first =>
    have H:=HC83.out
    clear HC83
    revert H;refine eN ?_ ?_<;>intro c84b0 c84b1 H
    ·(first | rw[c84b0] | (simp only[i64_w,i32_w];rw[c84b0]) | skip)
     have H':=aM H
     clear H
     go_wp2
     go_meet
     case rel=>exact⟨_,(false),rS,H',⟨by have:=HJy1.out;first | omega | exact Nat.le_refl _⟩,⟨(bX BKz1.out)⟩,⟨(bX BKz2.out)⟩,⟨(hX HB.out)⟩⟩
    (first | rw[c84b0] | (simp only[i64_w,i32_w];rw[c84b0]) | skip)
    have H':=aM H
    clear H
    have hnbw1:=nB NBz2 NBz1
    have hczw1:=cZ3 BKz2.out
    go_wp2
    go_meet
    case rel=>exact⟨_,((a1_0 == 8)),rS,H',⟨by have:=HJy1.out;first | omega | exact Nat.le_refl _⟩,⟨(bX BKz1.out)⟩,⟨(bX BKz2.out)⟩,⟨(hX HB.out)⟩⟩
   case rest =>
    clear HC83
    try clear c5b0
    try clear c5b1
    try clear c24b0
    try clear c24b1
    try clear c70b0
    try clear c70b1
    try clear hczz1
    try clear hczz3
    obtain⟨kq,x86_82,rfl,HA,HJw1,BKz1,BKz2,HB⟩:=hcut
    cases kq with
    | zero=>exact absurd HA.out (by simp[Xj.j1])
    | succ kj82 =>
     have H:=HA.out
     clear HA
     simp only[Xj.j1] at H
     cases x86_82
     case true =>
      rw[if_pos rfl] at H
      obtain rfl:=sI H
      have hnbv1:=nB NBz1 NBz2
      have hczv1:=cZ2 BKz1.out
      exact fS
     rw[if_neg nft] at H
     have HC90:=aM H
     clear H
     go_upto_region 12 with(fail)
     go_cut [97] (fun vv1 wc=>∃ (kq:Nat) (x97_89:Bool),vv1 = .bool x97_89∧Aside0 (Xj.j2 kq a2 x97_89 l0_0 a0_1 a1_0 a1_1 a1_2=some r)∧Aside0 (kq≤kj82)∧Aside0 (wc.heap[gbz1]? = some (.cells #[(.slice A0_0 l0_0.length c0_0),.int .i64 a0_1] 41 (0,0)))∧Aside0 (wc.heap[gbz2]? = some (.cells #[.int .i64 a1_0,.int .i64 a1_1,.int .i64 a1_2] 69 (0,0)))∧Aside0 (Below w.heap.size w wc))
     case first =>
      have H:=HC90.out
      clear HC90
      revert H;refine eN ?_ ?_<;>intro c91b0 c91b1 H
      ·(first | rw[c91b0] | (simp only[i64_w,i32_w];rw[c91b0]) | skip)
       have H':=aM H
       clear H
       go_wp2
       go_meet
       case rel=>exact⟨_,(false),rS,H',⟨by have:=HJy1.out;have:=HJw1.out;first | omega | exact Nat.le_refl _⟩,⟨(bX BKz1.out)⟩,⟨(bX BKz2.out)⟩,⟨(hX HB.out)⟩⟩
      (first | rw[c91b0] | (simp only[i64_w,i32_w];rw[c91b0]) | skip)
      have H':=aM H
      clear H
      have hnbu1:=nB NBz2 NBz1
      have hczu1:=cZ3 BKz2.out
      go_wp2
      go_meet
      case rel=>exact⟨_,((a1_0 == 9)),rS,H',⟨by have:=HJy1.out;have:=HJw1.out;first | omega | exact Nat.le_refl _⟩,⟨(bX BKz1.out)⟩,⟨(bX BKz2.out)⟩,⟨(hX HB.out)⟩⟩
     case rest =>
      clear HC90
      try clear c5b0
      try clear c5b1
      try clear c24b0
      try clear c24b1
      try clear c70b0
      try clear c70b1
      try clear hczz1
      try clear hczz3
      obtain⟨kq,x97_89,rfl,HA,HJu1,BKz1,BKz2,HB⟩:=hcut
      cases kq with
      | zero=>exact absurd HA.out (by simp[Xj.j2])
      | succ kj89 =>
       have H:=HA.out
       clear HA
       simp only[Xj.j2] at H
       cases x97_89
       case true =>
        rw[if_pos rfl] at H
        revert H;refine eP ?_ ?_<;>intro c95b0 c95b1 H
        ·obtain rfl:=sI H
         have hnbt1:=NBz1.out
         have hnct1:=NBz2.out
         have hczt1:=cZ2 BKz1.out
         exact fS
        replace H:=bE H;obtain⟨t107,A98,H⟩:=H
        obtain rfl:=sI H
        have hnbt1:=NBz1.out
        have hnct1:=NBz2.out
        have hczt1:=cZ2 BKz1.out
        go_wp2_with (go_at_call 200;(with_reducible refine(Xak.calls _ _ _ _ _ _ (rW HR0_0 HB HC0_0) A98.out).mono ?_);rintro e wt1 ⟨rfl,hb⟩;replace BKz1:=aB BKz1 hb;replace BKz2:=aB BKz2 hb;replace HB:=aS HB hb;clear hb)
        go_ret
        exact⟨rE,(hX HB.out)⟩
       rw[if_neg nft] at H
       revert H;refine eN ?_ ?_<;>intro c102b0 c102b1 H
       ·obtain rfl:=sI H
        exact fS
       revert H;refine eN ?_ ?_<;>intro c103b0 c103b1 H
       ·obtain rfl:=sI H
        have hnbt1:=NBz2.out
        have hnct1:=NBz1.out
        have hczt1:=cZ3 BKz2.out
        exact fS
       replace H:=bE H;obtain⟨t108,A104,H⟩:=H
       obtain rfl:=sI H
       have hnbt1:=NBz2.out
       have hnct1:=NBz1.out
       have hczt1:=cZ3 BKz2.out
       have hczt4:=cZ2 BKz1.out
       go_wp2_with (refine gB 200 121 Tryz.func200 (Xak.calls _ _ _ _ _ _ (rW HR0_0 HB HC0_0) A104.out) ?_;intro wt1 hb;replace BKz1:=aB BKz1 hb;replace BKz2:=aB BKz2 hb;replace HB:=aS HB hb;clear hb)
       go_ret
       exact⟨rE,(hX HB.out)⟩
end Go.Proofs.YtmljebgideecjaaGreat.P2
