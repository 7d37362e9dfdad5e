/- A part of the proof of the law FnStarts: texts of this seat, merged (words, printed functions of the program, plain lemmas). Conditions: none of its own. -/
import Derived.Test.YthejoblnfpaojaaGreatPkFnStarts13
set_option linter.unusedSimpArgs false
set_option linter.unusedVariables false
set_option maxHeartbeats 8000000
set_option maxRecDepth 100000
namespace Go.Proofs.YthejoblnfpaojaaGreat.P
open Go.Proofs.YthejoblnfpaojaaGreatZ Go.RowKit Go.Proofs.YthejoblnfpaojaaGreatW.PrintWords Go.Proofs.YthejoblnfpaojaaGreatW.PrintLast Go.Proofs.YthejoblnfpaojaaGreatW.PrintMore
attribute [local go_sem] max2_int min2_int max_two min_two max_three min_three max_four min_four   -- for this text's walks alone
def Xal.f (a0_0:Int) (a0_1:Int):Option (Bool):=(X6.f a0_0).bind fun t102=>(if t102=true then ((XC.f a0_1).bind fun t103=>(some (!t103))) else (some true))
theorem Xal.calls (a0_0:Int) (a0_1:Int) (r:Bool) (w:World) (H:Xal.f a0_0 a0_1=some r) :
  Calls Tryz.prog 157 #[.agg #[.int .i64 a0_0,.int .i64 a0_1]] w fun e w'=>e = .returned (.bool r)∧Below w.heap.size w w':=by
 have hu152:=Tryz.underlying152
 have HB:=aM (Below.refl w.heap.size w)
 unfold Xal.f at H
 replace H:=bE H;obtain⟨t102,A2,H⟩:=H
 go_enter Tryz.func157,Tryz.ntmps157
 go_wp2_with (refine boxE 1 #[.int .i64 a0_0,.int .i64 a0_1] 152 ?_;intro gbz1 hg wz1 hbox hb;have BKz1:=aM (hbox);have GWz1:=aG hg HB;replace HB:=aS HB hb;clear hb hbox hg;have hczz1:=cZ2 BKz1.out;refine Stop.out ?_)
 refine⟨?_⟩
 cases t102
 case false =>
  rw[if_neg nft] at H
  obtain rfl:=sI H
  go_wp2_with (refine gD 103 5 Tryz.func103 (X6.calls _ _ _ A2.out) ?_;intro nd)
  go_ret
  exact⟨rE,(hX HB.out)⟩
 rw[if_pos rfl] at H
 replace H:=bE H;obtain⟨t103,A4,H⟩:=H
 obtain rfl:=sI H
 go_wp2_with (first | (refine gD 103 5 Tryz.func103 (X6.calls _ _ _ A2.out) ?_;intro nd) | (go_at_call 102;(with_reducible refine(XC.calls _ _ _ A4.out).mono ?_);rintro e w' ⟨rfl,⟨nd,rfl⟩⟩))
 go_ret
 exact⟨rE,(hX HB.out)⟩
def XH.l0:Nat→List (S154)→Int→Int→Int→Option (Int)
 | 0,_,_,_,_=>none
 | k+1,x0,x7,x8,x9002000=>if x8<x7 then (if 0≤x8 then (if x8<(x0.length:Int) then ((Xak.f ((rd_T154 x0 x8).f0) ((rd_T154 x0 x8).f1) ((rd_T154 x0 x8).f2) ((rd_T154 x0 x8).f3) x9002000).bind fun t102=>(if t102=true then (some x8) else (XH.l0 k x0 x7 (wrap64 (x8+1)) x9002000))) else (none)) else (none)) else (some (-1))
def XH.f (k:Nat) (l0:List (S154)) (a1:Int):Option (Int):=XH.l0 k l0 (l0.length:Int) 0 a1
theorem XH.calls (k:Nat) (A0:Option Addr) (c0:Nat) (l0:List (S154)) (gc1:Nat) (a1:Int) (r:Int) (w:World) (h0:Rw k154 w A0 c0 l0) (hbc1:w.heap[gc1]? = some (.cells #[.int .i64 a1] 3 (0,0))) (H:XH.f k l0 a1=some r) :
  Calls Tryz.prog 202 #[.slice A0 l0.length c0,.func (.func 159) #[] #[.pointer (some ⟨gc1,0,none⟩)]] w fun e w'=>e = .returned (.int .i64 r)∧Below w.heap.size w w':=by
 have hu154:=Tryz.underlying154
 obtain⟨HR0,HC0⟩:=h0
 have BKz1:=aM hbc1
 clear hbc1
 have HB:=aM (Below.refl w.heap.size w)
 unfold XH.f at H
 have H':=aM H
 clear H
 go_enter Tryz.func202,Tryz.ntmps202
 go_wp2
 go_loopg [8] k (fun kq v8 w'=>∃ (x8_1:Int),v8 = .int .i64 x8_1∧Aside0 (XH.l0 kq l0 (l0.length:Int) x8_1 a1=some r)∧Aside0 (kq≤k)∧Aside0 (w'.heap[gc1]? = some (.cells #[.int .i64 a1] 3 (0,0)))∧Aside0 (Below w.heap.size w w'))
 case atStart=>exact⟨(0),rS,H',⟨Nat.le_refl _⟩,⟨(bX BKz1.out)⟩,⟨(hX HB.out)⟩⟩
 case round =>
  clear H'
  obtain⟨x8_1,rfl,HA,HKy1,BKz1,HB⟩:=hrel
  cases gk with
  | zero=>exact absurd HA.out (by simp[XH.l0])
  | succ k1 =>
   have H:=HA.out
   clear HA
   simp only[XH.l0] at H
   revert H;refine iN ?_ ?_<;>intro c3b0 H
   ·obtain rfl:=sI H
    exact fS
   replace H:=ifQ H;obtain⟨c4b0,H⟩:=H
   replace H:=ifQ H;obtain⟨c5b0,H⟩:=H
   replace H:=bE H;obtain⟨t102,A6,H⟩:=H
   cases t102
   case true =>
    rw[if_pos rfl] at H
    obtain rfl:=sI H
    obtain⟨adx1,ex1,px1,qx1,hxx1⟩:=at_T154c HR0 HB x8_1
    cases ex1
    go_wp2_with ((with_reducible refine Go.Proofs.YthejoblnfpaojaaGreatZ.gate_calleeT (t:=11) rfl ?_);refine Go.Proofs.YthejoblnfpaojaaGreatZ.goesTC_ (some 16) 11 rfl rfl Tryz.func159 (by kernel_rfl) rfl #[.agg #[.int .i64 ((rd_T154 l0 x8_1).f0),.int .i64 ((rd_T154 l0 x8_1).f1),.int .i64 ((rd_T154 l0 x8_1).f2),.int .i64 ((rd_T154 l0 x8_1).f3)]] #[.pointer (some ⟨gc1,0,none⟩)] #[.agg #[.int .i64 ((rd_T154 l0 x8_1).f0),.int .i64 ((rd_T154 l0 x8_1).f1),.int .i64 ((rd_T154 l0 x8_1).f2),.int .i64 ((rd_T154 l0 x8_1).f3)],.pointer (some ⟨gc1,0,none⟩)] rfl rfl (by (try simp only[List.map_toArray,List.map_cons,List.map_nil]);first | done | rfl | (simp only[List.length_drop,List.length_take];rfl)) rfl ?_;(with_reducible refine(Xak.calls ((rd_T154 l0 x8_1).f0) ((rd_T154 l0 x8_1).f1) ((rd_T154 l0 x8_1).f2) ((rd_T154 l0 x8_1).f3) gc1 a1 true _ ?side1 A6.out).mono ?_);(case side1=>exact(bX BKz1.out));rintro e wx1 ⟨rfl,hb⟩;refine⟨_,rfl,?_⟩;replace BKz1:=aB BKz1 hb;replace HB:=aS HB hb;clear hb)
    go_ret
    exact⟨rE,(hX HB.out)⟩
   rw[if_neg nft] at H
   have H':=aM H
   clear H
   obtain⟨adx1,ex1,px1,qx1,hxx1⟩:=at_T154c HR0 HB x8_1
   cases ex1
   go_wp2_with ((with_reducible refine Go.Proofs.YthejoblnfpaojaaGreatZ.gate_calleeT (t:=11) rfl ?_);refine Go.Proofs.YthejoblnfpaojaaGreatZ.goesTC_ (some 16) 11 rfl rfl Tryz.func159 (by kernel_rfl) rfl #[.agg #[.int .i64 ((rd_T154 l0 x8_1).f0),.int .i64 ((rd_T154 l0 x8_1).f1),.int .i64 ((rd_T154 l0 x8_1).f2),.int .i64 ((rd_T154 l0 x8_1).f3)]] #[.pointer (some ⟨gc1,0,none⟩)] #[.agg #[.int .i64 ((rd_T154 l0 x8_1).f0),.int .i64 ((rd_T154 l0 x8_1).f1),.int .i64 ((rd_T154 l0 x8_1).f2),.int .i64 ((rd_T154 l0 x8_1).f3)],.pointer (some ⟨gc1,0,none⟩)] rfl rfl (by (try simp only[List.map_toArray,List.map_cons,List.map_nil]);first | done | rfl | (simp only[List.length_drop,List.length_take];rfl)) rfl ?_;(with_reducible refine(Xak.calls ((rd_T154 l0 x8_1).f0) ((rd_T154 l0 x8_1).f1) ((rd_T154 l0 x8_1).f2) ((rd_T154 l0 x8_1).f3) gc1 a1 false _ ?side1 A6.out).mono ?_);(case side1=>exact(bX BKz1.out));rintro e wx1 ⟨rfl,hb⟩;refine⟨_,rfl,?_⟩;replace BKz1:=aB BKz1 hb;replace HB:=aS HB hb;clear hb)
   go_roundg k1
   case measure=>have:=HKy1.out;omega
   case rel=>exact⟨(wrap64 (x8_1+1)),rS,H',⟨by have:=HKy1.out;omega⟩,⟨(bX BKz1.out)⟩,⟨(hX HB.out)⟩⟩
mutual
def Xf.l0:Nat→Int→List (S80)→Int→Int→List (S51)→List (S58)→List (S108)→Int→List (S80)→List Int→List Int→Int→Option (Bool)
 | 0,_,_,_,_,_,_,_,_,_,_,_,_=>none
 | k+1,x3,x9,x10,x11,x102000,x102001,x102002,x102003,x102004,x102005,x102006,x102007=>if x11<x10 then (if 0≤x11 then (if x11<(x9.length:Int) then (if ((rd_T80 x9 x11).f3) ≥ 0 then (Xf.l0 k (wrap64 (x3+1)) x9 x10 (wrap64 (x11+1)) x102000 x102001 x102002 x102003 x102004 x102005 x102006 x102007) else (Xf.l0 k x3 x9 x10 (wrap64 (x11+1)) x102000 x102001 x102002 x102003 x102004 x102005 x102006 x102007)) else (none)) else (none)) else (Xf.l1 k x3 x102005 (x102005.length:Int) 0 x102000 x102001 x102002 x102003 x102004 x102005 x102006 x102007)
def Xf.l1:Nat→Int→List Int→Int→Int→List (S51)→List (S58)→List (S108)→Int→List (S80)→List Int→List Int→Int→Option (Bool)
 | 0,_,_,_,_,_,_,_,_,_,_,_,_=>none
 | k+1,x3,x22,x23,x24,x102000,x102001,x102002,x102003,x102004,x102005,x102006,x102007=>if x24<x23 then (if 0≤x24 then (if x24<(x22.length:Int) then ((Xe.f (rd x22 x24) 0 (wrap64 ((x102004.length:Int) - 1))).bind fun t105=>(if t105=true then (if 0≤(rd x22 x24) then (if (rd x22 x24)<(x102004.length:Int) then (if ((rd_T80 x102004 (rd x22 x24)).f3)<0 then (some false) else (if x24≤(x102005.length:Int) then ((slices_Contains_int_int.f k (x102005.take (x24:Int).toNat) (rd x22 x24)).bind fun t108=>(if t108=true then (some false) else (if x24 > 0 then (if 0≤(wrap64 (x24 - 1)) then (if (wrap64 (x24 - 1))<(x102005.length:Int) then (if 0≤(rd x102005 (wrap64 (x24 - 1))) then (if (rd x102005 (wrap64 (x24 - 1)))<(x102004.length:Int) then (if ((rd_T80 x102004 (rd x102005 (wrap64 (x24 - 1)))).f3) > ((rd_T80 x102004 (rd x22 x24)).f3) then (some false) else (Xf.l1 k x3 x22 x23 (wrap64 (x24+1)) x102000 x102001 x102002 x102003 x102004 x102005 x102006 x102007)) else (none)) else (none)) else (none)) else (none)) else (Xf.l1 k x3 x22 x23 (wrap64 (x24+1)) x102000 x102001 x102002 x102003 x102004 x102005 x102006 x102007)))) else (none))) else (none)) else (none)) else (some false))) else (none)) else (none)) else (some (x3 == (x102005.length:Int)))
end
def Xf.f (k:Nat) (l0_0:List (S51)) (l0_1:List (S58)) (l0_2:List (S108)) (a0_3:Int) (l0_4:List (S80)) (l0_5:List Int) (l0_6:List Int) (a0_7:Int):Option (Bool):=Xf.l0 k 0 l0_4 (l0_4.length:Int) 0 l0_0 l0_1 l0_2 a0_3 l0_4 l0_5 l0_6 a0_7
def Xf.T11:Bool × List (List Nat × List Nat):=(true,[([],[]),([],[]),([1],[1]),([2],[2]),([3],[3]),([0,4],[0,4]),([5],[5]),([6,5],[6]),([7],[7]),([8,7],[7,8]),([7],[7]),([9,10,7],[7,9,10]),([11,7],[7,11]),([12,7],[7,12]),([13,7],[7,13]),([7,14],[7,14]),([15,7],[15]),([16],[16]),([17,16],[16,17]),([16],[16]),([18,19,16],[16,18,19]),([16],[16]),([20,21,16,16],[16,20,21]),([16,22],[16,22]),([23,22],[23]),([24],[24]),([25,24],[24,25]),([26,24,24],[24,26]),([27],[27]),([28,27],[27,28]),([27],[27]),([30,27],[27,30]),([27],[27]),([32,27],[27,32]),([31,33,27],[27,31,33]),([34,27],[27,34]),([29,35,27],[27,29,35]),([36,27],[27,36]),([37,27],[27,37]),([27],[27]),([39,27],[27,39]),([27],[27]),([40,41,27],[27,40,41]),([42,27],[27,42]),([43,27],[27,43]),([38,44,27],[27,38,44]),([27,45,24],[24,27,45]),([24,46],[24,46])])
def Xf.B11:List Nat:=[0,0,2,6,14,31,63,127,255,511,255,2047,4095,8191,16383,32767,65535,131071,262143,131071,1048575,131071,4194303,8388607,16777215,33554431,67108863,134217727,268435455,536870911,268435455,1342177279,268435455,4563402751,16374562815,33554431999,68719476735,137438953471,274877906943,268435455,550024249343,268435455,3848559132671,8246605643775,17042698665983,35184372088831,70368744177663,140737488355327]
theorem Xf.tab11:rtab .any (opsOf Tryz.f93 11)=Xf.T11:=by kernel_rfl
theorem Xf.bits11:waitsOk Xf.T11.2 Xf.B11=true:=by kernel_rfl
theorem Xf.calls (k:Nat) (A0_0:Option Addr) (c0_0:Nat) (l0_0:List (S51)) (A0_1:Option Addr) (c0_1:Nat) (l0_1:List (S58)) (A0_2:Option Addr) (c0_2:Nat) (l0_2:List (S108)) (a0_3:Int) (A0_4:Option Addr) (c0_4:Nat) (l0_4:List (S80)) (A0_5:Option Addr) (c0_5:Nat) (l0_5:List Int) (A0_6:Option Addr) (c0_6:Nat) (l0_6:List Int) (a0_7:Int) (r:Bool) (w:World) (h0_0:Rw k51 w A0_0 c0_0 l0_0) (h0_1:Rw k58 w A0_1 c0_1 l0_1) (h0_2:Rw k108 w A0_2 c0_2 l0_2) (h0_4:Rw k80 w A0_4 c0_4 l0_4) (h0_5:Rw (Kd.int .i64) w A0_5 c0_5 l0_5) (h0_6:Rw (Kd.int .i64) w A0_6 c0_6 l0_6) (H:Xf.f k l0_0 l0_1 l0_2 a0_3 l0_4 l0_5 l0_6 a0_7=some r) :
  Calls Tryz.prog 93 #[.agg #[.slice A0_0 l0_0.length c0_0,.slice A0_1 l0_1.length c0_1,.slice A0_2 l0_2.length c0_2,.int .i64 a0_3,.slice A0_4 l0_4.length c0_4,.slice A0_5 l0_5.length c0_5,.slice A0_6 l0_6.length c0_6,.int .i64 a0_7]] w fun e w'=>e = .returned (.bool r)∧Below w.heap.size w w':=by
 have hu37:=Tryz.underlying37
 have hu80:=Tryz.underlying80
 obtain⟨HR0_0,HC0_0⟩:=h0_0
 obtain⟨HR0_1,HC0_1⟩:=h0_1
 obtain⟨HR0_2,HC0_2⟩:=h0_2
 obtain⟨HR0_4,HC0_4⟩:=h0_4
 obtain⟨HR0_5,HC0_5⟩:=h0_5
 obtain⟨HR0_6,HC0_6⟩:=h0_6
 have HB:=aM (Below.refl w.heap.size w)
 unfold Xf.f at H
 have H':=aM H
 clear H
 go_enter Tryz.func93,Tryz.ntmps93
 go_wp2_with (refine boxE 1 #[.slice A0_0 l0_0.length c0_0,.slice A0_1 l0_1.length c0_1,.slice A0_2 l0_2.length c0_2,.int .i64 a0_3,.slice A0_4 l0_4.length c0_4,.slice A0_5 l0_5.length c0_5,.slice A0_6 l0_6.length c0_6,.int .i64 a0_7] 37 ?_;intro gbz1 hg wz1 hbox hb;have BKz1:=aM (hbox);have GWz1:=aG hg HB;replace HB:=aS HB hb;clear hb hbox hg;have hczz1:=cZ8 BKz1.out)
 go_loopg [3,11] k (fun kq v3 v11 w'=>∃ (x3_1:Int) (x11_1:Int),v3 = .int .i64 x3_1∧v11 = .int .i64 x11_1∧Aside0 (Xf.l0 kq x3_1 l0_4 (l0_4.length:Int) x11_1 l0_0 l0_1 l0_2 a0_3 l0_4 l0_5 l0_6 a0_7=some r)∧Aside0 (kq≤k)∧Aside0 (w'.heap[gbz1]? = some (.cells #[(.slice A0_0 l0_0.length c0_0),(.slice A0_1 l0_1.length c0_1),(.slice A0_2 l0_2.length c0_2),.int .i64 a0_3,(.slice A0_4 l0_4.length c0_4),(.slice A0_5 l0_5.length c0_5),(.slice A0_6 l0_6.length c0_6),.int .i64 a0_7] 37 (0,0)))∧Aside0 (Below w.heap.size w w'))
 case atStart=>exact⟨(0),(0),rS,rS,H',⟨Nat.le_refl _⟩,⟨(bX BKz1.out)⟩,⟨(hX HB.out)⟩⟩
 case round =>
  clear H'
  try clear hczz1
  obtain⟨x3_1,x11_1,rfl,rfl,HA,HKy1,BKz1,HB⟩:=hrel
  cases gk with
  | zero=>exact absurd HA.out (by simp[Xf.l0])
  | succ k1 =>
   have H:=HA.out
   clear HA
   simp only[Xf.l0] at H
   revert H;refine iP ?_ ?_<;>intro c4b0 H
   ·replace H:=ifP H;obtain⟨c5,H⟩:=H
    have c5b0:=decide_eq_true c5
    clear c5
    replace H:=ifQ H;obtain⟨c6b0,H⟩:=H
    obtain⟨adx1,Ax1,cx1,ex1,px1,qx1,hxx1,HCx1,HRx1⟩:=at_T80c HR0_4 HB x11_1
    cases ex1
    go_wp2_with (refine boxE 5 #[.int .i64 0,.int .i64 0,.int .i64 0,.int .i64 0,.int .i64 0,.int .i64 0,.int .i64 0,.int .i64 0,.slice none 0 0] 80 ?_;intro gbx1 hg wx1 hbox hb;have BKx1:=aM (hbox);have GWx1:=aG hg HB;have NBx1:=aL hg BKz1;have NBx2:=aR hg BKz1;replace BKz1:=aB BKz1 hb;replace HB:=aS HB hb;clear hb hbox hg;have hnbx1:=nB NBx2 NBx1;have hczx1:=cZ9 BKx1.out;refine Stop.out ?_)
    refine⟨?_⟩
    revert H;refine iN ?_ ?_<;>intro c7b0 H
    ·have H':=aM H
     clear H
     go_wp2
     go_roundg k1
     case measure=>have:=HKy1.out;omega
     case rel=>exact⟨(x3_1),(wrap64 (x11_1+1)),rS,rS,H',⟨by have:=HKy1.out;omega⟩,⟨(bF BKz1.out)⟩,⟨(hX HB.out)⟩⟩
    have H':=aM H
    clear H
    go_wp2
    go_roundg k1
    case measure=>have:=HKy1.out;omega
    case rel=>exact⟨(wrap64 (x3_1+1)),(wrap64 (x11_1+1)),rS,rS,H',⟨by have:=HKy1.out;omega⟩,⟨(bF BKz1.out)⟩,⟨(hX HB.out)⟩⟩
   have H':=aM H
   clear H
   have hczx1:=cZ8 BKz1.out
   go_wp2
   go_loopg [24] k1 (fun kq v24 w'=>∃ (x24_2:Int),v24 = .int .i64 x24_2∧Aside0 (Xf.l1 kq x3_1 l0_5 (l0_5.length:Int) x24_2 l0_0 l0_1 l0_2 a0_3 l0_4 l0_5 l0_6 a0_7=some r)∧Aside0 (kq≤k1)∧Aside0 (w'.heap[gbz1]? = some (.cells #[(.slice A0_0 l0_0.length c0_0),(.slice A0_1 l0_1.length c0_1),(.slice A0_2 l0_2.length c0_2),.int .i64 a0_3,(.slice A0_4 l0_4.length c0_4),(.slice A0_5 l0_5.length c0_5),(.slice A0_6 l0_6.length c0_6),.int .i64 a0_7] 37 (0,0)))∧Aside0 (Below w.heap.size w w'))
   case atStart=>exact⟨(0),rS,H',⟨Nat.le_refl _⟩,⟨(bX BKz1.out)⟩,⟨(hX HB.out)⟩⟩
   case round =>
    clear H'
    try clear c4b0
    try clear hczx1
    try clear hczz1
    obtain⟨x24_2,rfl,HA,HKw1,BKz1,HB⟩:=hrel
    cases gk with
    | zero=>exact absurd HA.out (by simp[Xf.l1])
    | succ k2 =>
     have H:=HA.out
     clear HA
     simp only[Xf.l1] at H
     revert H;refine iN ?_ ?_<;>intro c15b0 H
     ·obtain rfl:=sI H
      have hczv1:=cZ8 BKz1.out
      exact fS
     replace H:=ifQ H;obtain⟨c16b0,H⟩:=H
     replace H:=ifQ H;obtain⟨c17b0,H⟩:=H
     replace H:=bE H;obtain⟨t105,A18,H⟩:=H
     cases t105
     case false =>
      rw[if_neg nft] at H
      obtain rfl:=sI H
      obtain⟨adv1,ev1,pv1,qv1,hxv1⟩:=at_ic HR0_5 HB x24_2
      cases ev1
      try go_wp2
      have hcb0_:=cV8 BKz1.out
      refine sR0 48 Xf.tab11 Xf.bits11 (fun HT_ HW_ hHeld => ?_)
      refine zA 0 ?_
      refine zA 1 ?_
      refine tA 2 ?_
      refine zA 3 ?_
      refine zA 4 ?_
      refine eD 5 Tryz.func88 (Xe.calls _ _ _ _ _ A18.out) (fun nd hHeld => ?_)
      refine zA 6 ?_
      refine zA 7 ?_
      refine uA 8 ?_
      refine uA 9 ?_
      refine uA 10 ?_
      refine uA 11 ?_
      refine uA 12 ?_
      refine uA 13 ?_
      refine uA 14 ?_
      refine zA 15 ?_
      refine zA 16 ?_
      refine uA 17 ?_
      refine uA 18 ?_
      refine uA 19 ?_
      refine uA 20 ?_
      refine uA 21 ?_
      refine uA 22 ?_
      refine zA 23 ?_
      refine zA 24 ?_
      refine uA 25 ?_
      refine uA 26 ?_
      refine uA 27 ?_
      refine uA 28 ?_
      refine uA 29 ?_
      refine uA 30 ?_
      refine uA 31 ?_
      refine uA 32 ?_
      refine uA 33 ?_
      refine uA 34 ?_
      refine uA 35 ?_
      refine uA 36 ?_
      refine uA 37 ?_
      refine uA 38 ?_
      refine uA 39 ?_
      refine uA 40 ?_
      refine uA 41 ?_
      refine uA 42 ?_
      refine uA 43 ?_
      refine uA 44 ?_
      refine uA 45 ?_
      refine uA 46 ?_
      refine zA 47 ?_
      refine dA ?_
      try go_wp2
      go_ret
      exact⟨rE,(hX HB.out)⟩
     rw[if_pos rfl] at H
     replace H:=ifQ H;obtain⟨c20b0,H⟩:=H
     replace H:=ifQ H;obtain⟨c21b0,H⟩:=H
     revert H;refine iP ?_ ?_<;>intro c22b0 H
     ·obtain rfl:=sI H
      obtain⟨adv1,ev1,pv1,qv1,hxv1⟩:=at_ic HR0_5 HB x24_2
      cases ev1
      try go_wp2
      obtain⟨adv2,Av1,cv1,ev2,pv2,qv2,hxv2,HCv1,HRv1⟩:=at_T80c HR0_4 HB (rd l0_5 x24_2)
      cases ev2
      have hcb0_:=cV8 BKz1.out
      refine sR0 48 Xf.tab11 Xf.bits11 (fun HT_ HW_ hHeld => ?_)
      refine zA 0 ?_
      refine zA 1 ?_
      refine tA 2 ?_
      refine zA 3 ?_
      refine zA 4 ?_
      refine eD 5 Tryz.func88 (Xe.calls _ _ _ _ _ A18.out) (fun nd hHeld => ?_)
      refine zA 6 ?_
      refine zA 7 ?_
      refine zA 8 ?_
      refine zA 10 ?_
      refine tA 9 ?_
      refine zA 11 ?_
      refine zA 12 ?_
      refine tA 13 ?_
      refine zA 14 ?_
      refine zA 15 ?_
      refine zA 16 ?_
      refine uA 17 ?_
      refine uA 18 ?_
      refine uA 19 ?_
      refine uA 20 ?_
      refine uA 21 ?_
      refine uA 22 ?_
      refine zA 23 ?_
      refine zA 24 ?_
      refine uA 25 ?_
      refine uA 26 ?_
      refine uA 27 ?_
      refine uA 28 ?_
      refine uA 29 ?_
      refine uA 30 ?_
      refine uA 31 ?_
      refine uA 32 ?_
      refine uA 33 ?_
      refine uA 34 ?_
      refine uA 35 ?_
      refine uA 36 ?_
      refine uA 37 ?_
      refine uA 38 ?_
      refine uA 39 ?_
      refine uA 40 ?_
      refine uA 41 ?_
      refine uA 42 ?_
      refine uA 43 ?_
      refine uA 44 ?_
      refine uA 45 ?_
      refine uA 46 ?_
      refine zA 47 ?_
      refine dA ?_
      try go_wp2
      go_ret
      exact⟨rE,(hX HB.out)⟩
     have c24b0:=eq_true (odA:0≤x24_2)
     replace H:=ifP H;obtain⟨c25,H⟩:=H
     have c25b0:=eq_true c25
     have c25b1:=decide_eq_true c25
     clear c25
     replace H:=bE H;obtain⟨t108,A26,H⟩:=H
     cases t108
     case true =>
      rw[if_pos rfl] at H
      obtain rfl:=sI H
      obtain⟨adv1,ev1,pv1,qv1,hxv1⟩:=at_ic HR0_5 HB x24_2
      cases ev1
      try go_wp2
      obtain⟨adv2,Av1,cv1,ev2,pv2,qv2,hxv2,HCv1,HRv1⟩:=at_T80c HR0_4 HB (rd l0_5 x24_2)
      cases ev2
      have hcb0_:=cV8 BKz1.out
      refine sR0 48 Xf.tab11 Xf.bits11 (fun HT_ HW_ hHeld => ?_)
      refine zA 0 ?_
      refine zA 1 ?_
      refine tA 2 ?_
      refine zA 3 ?_
      refine zA 4 ?_
      refine eD 5 Tryz.func88 (Xe.calls _ _ _ _ _ A18.out) (fun nd hHeld => ?_)
      obtain⟨iv1,hiv2,_,hszv1,_⟩:=info_parts info3
      obtain⟨hcutv1,hAv1,hCv1⟩:=print_take_of (P:=Tryz.prog) (Value.int .i64) 0 24 3 .i64 Tryz.underlying24 hiv2 hszv1 (some adv1) c0_5 l0_5 x24_2 (odA) (odA) HC0_5.out
      have HRv2:=aM (Kd.C_of_reads (h1:=fun _=>rfl) (hAv1 _ (Kd.reads_of_C HR0_5.out)))
      have HCv2:=aM hCv1
      clear hAv1 hCv1 hiv2 hszv1
      refine zA 6 ?_
      refine zA 7 ?_
      refine zA 8 ?_
      refine zA 10 ?_
      refine tA 9 ?_
      refine zA 11 ?_
      refine zA 12 ?_
      refine tA 13 ?_
      refine zA 14 ?_
      refine zA 15 ?_
      refine zA 16 ?_
      refine zA 17 ?_
      refine zA 19 ?_
      refine zA 21 ?_
      refine tA 18 ?_
      refine zA 20 ?_
      refine oA 22 (fun K hK => ?_)
      refine goes_ Tryz.func137 (by kernel_rfl) rfl #[.slice (some adv1) (l0_5.take (x24_2:Int).toNat).length c0_5,.int .i64 (rd l0_5 x24_2)] (by rfl) rfl rfl (by (try simp only[List.map_toArray,List.map_cons,List.map_nil]);first | done | (rw[show (l0_5.take (x24_2:Int).toNat).length=x24_2.toNat from (by rw[List.length_take];have h_:(x24_2:Int)≤(l0_5.length:Int):=odA;omega)]<;>rfl) | rfl | (simp only[List.length_drop,List.length_take];rfl)) ?_
      refine(slices_Contains_int_int.calls _ _ _ _ _ _ _ (cC HRv2.out HB.out) HCv2.out A26.out).mono ?_
      rintro e w' ⟨rfl,⟨nd,rfl⟩⟩
      refine⟨_,rfl,?_⟩
      refine hK.out _ _ (bDN hHeld _) (fun hHeld => ?_)
      clear hK K
      refine nZ 51 ?_
      refine zA 23 ?_
      refine zA 24 ?_
      refine uA 25 ?_
      refine uA 26 ?_
      refine uA 27 ?_
      refine uA 28 ?_
      refine uA 29 ?_
      refine uA 30 ?_
      refine uA 31 ?_
      refine uA 32 ?_
      refine uA 33 ?_
      refine uA 34 ?_
      refine uA 35 ?_
      refine uA 36 ?_
      refine uA 37 ?_
      refine uA 38 ?_
      refine uA 39 ?_
      refine uA 40 ?_
      refine uA 41 ?_
      refine uA 42 ?_
      refine uA 43 ?_
      refine uA 44 ?_
      refine uA 45 ?_
      refine uA 46 ?_
      refine zA 47 ?_
      refine dA ?_
      try go_wp2
      go_ret
      exact⟨rE,(hX HB.out)⟩
     rw[if_neg nft] at H
     revert H;refine iN ?_ ?_<;>intro c30b0 H
     ·have H':=aM H
      clear H
      obtain⟨adv1,ev1,pv1,qv1,hxv1⟩:=at_ic HR0_5 HB x24_2
      cases ev1
      try go_wp2
      obtain⟨adv2,Av1,cv1,ev2,pv2,qv2,hxv2,HCv1,HRv1⟩:=at_T80c HR0_4 HB (rd l0_5 x24_2)
      cases ev2
      have hcb0_:=cV8 BKz1.out
      refine sR0 48 Xf.tab11 Xf.bits11 (fun HT_ HW_ hHeld => ?_)
      refine zA 0 ?_
      refine zA 1 ?_
      refine tA 2 ?_
      refine zA 3 ?_
      refine zA 4 ?_
      refine eD 5 Tryz.func88 (Xe.calls _ _ _ _ _ A18.out) (fun nd hHeld => ?_)
      obtain⟨iv1,hiv2,_,hszv1,_⟩:=info_parts info3
      obtain⟨hcutv1,hAv1,hCv1⟩:=print_take_of (P:=Tryz.prog) (Value.int .i64) 0 24 3 .i64 Tryz.underlying24 hiv2 hszv1 (some adv1) c0_5 l0_5 x24_2 (odA) (odA) HC0_5.out
      have HRv2:=aM (Kd.C_of_reads (h1:=fun _=>rfl) (hAv1 _ (Kd.reads_of_C HR0_5.out)))
      have HCv2:=aM hCv1
      clear hAv1 hCv1 hiv2 hszv1
      refine zA 6 ?_
      refine zA 7 ?_
      refine zA 8 ?_
      refine zA 10 ?_
      refine tA 9 ?_
      refine zA 11 ?_
      refine zA 12 ?_
      refine tA 13 ?_
      refine zA 14 ?_
      refine zA 15 ?_
      refine zA 16 ?_
      refine zA 17 ?_
      refine zA 19 ?_
      refine zA 21 ?_
      refine tA 18 ?_
      refine zA 20 ?_
      refine oA 22 (fun K hK => ?_)
      refine goes_ Tryz.func137 (by kernel_rfl) rfl #[.slice (some adv1) (l0_5.take (x24_2:Int).toNat).length c0_5,.int .i64 (rd l0_5 x24_2)] (by rfl) rfl rfl (by (try simp only[List.map_toArray,List.map_cons,List.map_nil]);first | done | (rw[show (l0_5.take (x24_2:Int).toNat).length=x24_2.toNat from (by rw[List.length_take];have h_:(x24_2:Int)≤(l0_5.length:Int):=odA;omega)]<;>rfl) | rfl | (simp only[List.length_drop,List.length_take];rfl)) ?_
      refine(slices_Contains_int_int.calls _ _ _ _ _ _ _ (cC HRv2.out HB.out) HCv2.out A26.out).mono ?_
      rintro e w' ⟨rfl,⟨nd,rfl⟩⟩
      refine⟨_,rfl,?_⟩
      refine hK.out _ _ (bDN hHeld _) (fun hHeld => ?_)
      clear hK K
      refine nZ 51 ?_
      refine zA 23 ?_
      refine zA 24 ?_
      refine zA 25 ?_
      refine zA 26 ?_
      refine zA 27 ?_
      refine uA 28 ?_
      refine uA 29 ?_
      refine uA 30 ?_
      refine uA 31 ?_
      refine uA 32 ?_
      refine uA 33 ?_
      refine uA 34 ?_
      refine uA 35 ?_
      refine uA 36 ?_
      refine uA 37 ?_
      refine uA 38 ?_
      refine uA 39 ?_
      refine uA 40 ?_
      refine uA 41 ?_
      refine uA 42 ?_
      refine uA 43 ?_
      refine uA 44 ?_
      refine uA 45 ?_
      refine zA 46 ?_
      refine zA 47 ?_
      refine dA ?_
      try go_wp2
      go_roundg k2
      case measure=>have:=HKy1.out;have:=HKw1.out;omega
      case rel=>exact⟨(wrap64 (x24_2+1)),rS,H',⟨by have:=HKy1.out;have:=HKw1.out;omega⟩,⟨(bX BKz1.out)⟩,⟨(hX HB.out)⟩⟩
     obtain⟨ji31,hji31⟩:∃ j_:Int,(wrap64 (x24_2 - 1))=j_:=⟨_,rfl⟩
     replace H:(if 0≤(ji31) then (if (ji31)<(l0_5.length:Int) then (if 0≤(rd l0_5 (ji31)) then (if (rd l0_5 (ji31))<(l0_4.length:Int) then (if ((rd_T80 l0_4 (rd l0_5 (ji31))).f3) > ((rd_T80 l0_4 (rd l0_5 x24_2)).f3) then (some false) else (Xf.l1 k2 x3_1 l0_5 (l0_5.length:Int) (wrap64 (x24_2+1)) l0_0 l0_1 l0_2 a0_3 l0_4 l0_5 l0_6 a0_7)) else (none)) else (none)) else (none)) else (none))=some r:=by first | (rw[hji31] at H;exact H) | (simp only[hji31] at H ⊢;exact H)
     (try rw[hji31] at A18)
     (try rw[hji31] at A26)
     have hji31w:(IntKind.i64.wrap (x24_2 - 1))=ji31:=(i64_w _).trans hji31
     replace H:=ifQ H;obtain⟨c32b0,H⟩:=H
     replace H:=ifQ H;obtain⟨c33b0,H⟩:=H
     replace H:=ifQ H;obtain⟨c34b0,H⟩:=H
     replace H:=ifQ H;obtain⟨c35b0,H⟩:=H
     revert H;refine iP ?_ ?_<;>intro c36b0 H
     ·obtain rfl:=sI H
      obtain⟨adv1,ev1,pv1,qv1,hxv1⟩:=at_ic HR0_5 HB x24_2
      cases ev1
      try go_wp2
      obtain⟨adv2,Av1,cv1,ev2,pv2,qv2,⟨hxv2,hxv3,hxv4,hxv5,hxv6,hxv7,hxv8,hxv9,hxv10⟩,HCv1,HRv1⟩:=at_T80c HR0_4 HB (rd l0_5 x24_2)
      cases ev2
      obtain⟨adv3,ev3,pv3,qv3,hxv11⟩:=at_ic HR0_5 HB (ji31)
      obtain rfl:adv1=adv3:=(by injection ev3)
      obtain⟨adv4,Av2,cv2,ev4,pv4,qv4,hxv12,HCv2,HRv2⟩:=at_T80c HR0_4 HB (rd l0_5 (ji31))
      obtain rfl:adv2=adv4:=(by injection ev4)
      obtain⟨adv5,Av3,cv3,ev5,pv5,qv5,⟨hxv21,hxv22,hxv23,hxv24,hxv25,hxv26,hxv27,hxv28,hxv29⟩,HCv3,HRv3⟩:=at_T80c HR0_4 HB (rd l0_5 x24_2)
      obtain rfl:adv2=adv5:=(by injection ev5)
      have ea_:=Option.some.inj (hxv10.symm.trans hxv29)
      injection ea_ with ea_ en_ ec_
      subst ea_
      subst ec_
      clear en_
      have hcb0_:=cV8 BKz1.out
      refine sR0 48 Xf.tab11 Xf.bits11 (fun HT_ HW_ hHeld => ?_)
      refine zA 0 ?_
      refine zA 1 ?_
      refine tA 2 ?_
      refine zA 3 ?_
      refine zA 4 ?_
      refine eD 5 Tryz.func88 (Xe.calls _ _ _ _ _ A18.out) (fun nd hHeld => ?_)
      obtain⟨iv1,hiv4,_,hszv1,_⟩:=info_parts info3
      obtain⟨hcutv1,hAv1,hCv1⟩:=print_take_of (P:=Tryz.prog) (Value.int .i64) 0 24 3 .i64 Tryz.underlying24 hiv4 hszv1 (some adv1) c0_5 l0_5 x24_2 (odA) (odA) HC0_5.out
      have HRv4:=aM (Kd.C_of_reads (h1:=fun _=>rfl) (hAv1 _ (Kd.reads_of_C HR0_5.out)))
      have HCv4:=aM hCv1
      clear hAv1 hCv1 hiv4 hszv1
      refine zA 6 ?_
      refine zA 7 ?_
      refine zA 8 ?_
      refine zA 10 ?_
      refine tA 9 ?_
      refine zA 11 ?_
      refine zA 12 ?_
      refine tA 13 ?_
      refine zA 14 ?_
      refine zA 15 ?_
      refine zA 16 ?_
      refine zA 17 ?_
      refine zA 19 ?_
      refine zA 21 ?_
      refine tA 18 ?_
      refine zA 20 ?_
      refine oA 22 (fun K hK => ?_)
      refine goes_ Tryz.func137 (by kernel_rfl) rfl #[.slice (some adv1) (l0_5.take (x24_2:Int).toNat).length c0_5,.int .i64 (rd l0_5 x24_2)] (by rfl) rfl rfl (by (try simp only[List.map_toArray,List.map_cons,List.map_nil]);first | done | (rw[show (l0_5.take (x24_2:Int).toNat).length=x24_2.toNat from (by rw[List.length_take];have h_:(x24_2:Int)≤(l0_5.length:Int):=odA;omega)]<;>rfl) | rfl | (simp only[List.length_drop,List.length_take];rfl)) ?_
      refine(slices_Contains_int_int.calls _ _ _ _ _ _ _ (cC HRv4.out HB.out) HCv4.out A26.out).mono ?_
      rintro e w' ⟨rfl,⟨nd,rfl⟩⟩
      refine⟨_,rfl,?_⟩
      refine hK.out _ _ (bDN hHeld _) (fun hHeld => ?_)
      clear hK K
      refine nZ 51 ?_
      refine zA 23 ?_
      refine zA 24 ?_
      refine zA 25 ?_
      refine zA 26 ?_
      refine zA 27 ?_
      refine zA 28 ?_
      refine zA 30 ?_
      refine zA 32 ?_
      refine zA 33 ?_
      refine zA 39 ?_
      refine zA 41 ?_
      refine tA 29 ?_
      refine tA 31 ?_
      refine zA 34 ?_
      refine tA 35 ?_
      refine zA 36 ?_
      refine zA 37 ?_
      refine tA 38 ?_
      refine tA 40 ?_
      refine zA 42 ?_
      refine zA 43 ?_
      refine tA 44 ?_
      refine zA 45 ?_
      refine zA 46 ?_
      refine zA 47 ?_
      refine dA ?_
      try go_wp2
      go_ret
      exact⟨by first | rfl | (simp[errW_none,errW_some]<;>rfl) | (simp only[← hji31];first | rfl | (simp[errW_none,errW_some]<;>rfl)) | (simp[*,errW_none,errW_some]<;>rfl),(hX HB.out)⟩
     have H':=aM H
     clear H
     obtain⟨adv1,ev1,pv1,qv1,hxv1⟩:=at_ic HR0_5 HB x24_2
     cases ev1
     try go_wp2
     obtain⟨adv2,Av1,cv1,ev2,pv2,qv2,⟨hxv2,hxv3,hxv4,hxv5,hxv6,hxv7,hxv8,hxv9,hxv10⟩,HCv1,HRv1⟩:=at_T80c HR0_4 HB (rd l0_5 x24_2)
     cases ev2
     obtain⟨adv3,ev3,pv3,qv3,hxv11⟩:=at_ic HR0_5 HB (ji31)
     obtain rfl:adv1=adv3:=(by injection ev3)
     obtain⟨adv4,Av2,cv2,ev4,pv4,qv4,hxv12,HCv2,HRv2⟩:=at_T80c HR0_4 HB (rd l0_5 (ji31))
     obtain rfl:adv2=adv4:=(by injection ev4)
     obtain⟨adv5,Av3,cv3,ev5,pv5,qv5,⟨hxv21,hxv22,hxv23,hxv24,hxv25,hxv26,hxv27,hxv28,hxv29⟩,HCv3,HRv3⟩:=at_T80c HR0_4 HB (rd l0_5 x24_2)
     obtain rfl:adv2=adv5:=(by injection ev5)
     have ea_:=Option.some.inj (hxv10.symm.trans hxv29)
     injection ea_ with ea_ en_ ec_
     subst ea_
     subst ec_
     clear en_
     have hcb0_:=cV8 BKz1.out
     refine sR0 48 Xf.tab11 Xf.bits11 (fun HT_ HW_ hHeld => ?_)
     refine zA 0 ?_
     refine zA 1 ?_
     refine tA 2 ?_
     refine zA 3 ?_
     refine zA 4 ?_
     refine eD 5 Tryz.func88 (Xe.calls _ _ _ _ _ A18.out) (fun nd hHeld => ?_)
     obtain⟨iv1,hiv4,_,hszv1,_⟩:=info_parts info3
     obtain⟨hcutv1,hAv1,hCv1⟩:=print_take_of (P:=Tryz.prog) (Value.int .i64) 0 24 3 .i64 Tryz.underlying24 hiv4 hszv1 (some adv1) c0_5 l0_5 x24_2 (odA) (odA) HC0_5.out
     have HRv4:=aM (Kd.C_of_reads (h1:=fun _=>rfl) (hAv1 _ (Kd.reads_of_C HR0_5.out)))
     have HCv4:=aM hCv1
     clear hAv1 hCv1 hiv4 hszv1
     refine zA 6 ?_
     refine zA 7 ?_
     refine zA 8 ?_
     refine zA 10 ?_
     refine tA 9 ?_
     refine zA 11 ?_
     refine zA 12 ?_
     refine tA 13 ?_
     refine zA 14 ?_
     refine zA 15 ?_
     refine zA 16 ?_
     refine zA 17 ?_
     refine zA 19 ?_
     refine zA 21 ?_
     refine tA 18 ?_
     refine zA 20 ?_
     refine oA 22 (fun K hK => ?_)
     refine goes_ Tryz.func137 (by kernel_rfl) rfl #[.slice (some adv1) (l0_5.take (x24_2:Int).toNat).length c0_5,.int .i64 (rd l0_5 x24_2)] (by rfl) rfl rfl (by (try simp only[List.map_toArray,List.map_cons,List.map_nil]);first | done | (rw[show (l0_5.take (x24_2:Int).toNat).length=x24_2.toNat from (by rw[List.length_take];have h_:(x24_2:Int)≤(l0_5.length:Int):=odA;omega)]<;>rfl) | rfl | (simp only[List.length_drop,List.length_take];rfl)) ?_
     refine(slices_Contains_int_int.calls _ _ _ _ _ _ _ (cC HRv4.out HB.out) HCv4.out A26.out).mono ?_
     rintro e w' ⟨rfl,⟨nd,rfl⟩⟩
     refine⟨_,rfl,?_⟩
     refine hK.out _ _ (bDN hHeld _) (fun hHeld => ?_)
     clear hK K
     refine nZ 51 ?_
     refine zA 23 ?_
     refine zA 24 ?_
     refine zA 25 ?_
     refine zA 26 ?_
     refine zA 27 ?_
     refine zA 28 ?_
     refine zA 30 ?_
     refine zA 32 ?_
     refine zA 33 ?_
     refine zA 39 ?_
     refine zA 41 ?_
     refine tA 29 ?_
     refine tA 31 ?_
     refine zA 34 ?_
     refine tA 35 ?_
     refine zA 36 ?_
     refine zA 37 ?_
     refine tA 38 ?_
     refine tA 40 ?_
     refine zA 42 ?_
     refine zA 43 ?_
     refine tA 44 ?_
     refine zA 45 ?_
     refine zA 46 ?_
     refine zA 47 ?_
     refine dA ?_
     try go_wp2
     go_roundg k2
     case measure=>have:=HKy1.out;have:=HKw1.out;omega
     case rel=>exact⟨(wrap64 (x24_2+1)),rS,H',⟨by have:=HKy1.out;have:=HKw1.out;omega⟩,⟨(bX BKz1.out)⟩,⟨(hX HB.out)⟩⟩
def XaG.f (a0:Int):Option (Int):=(XQ.f a0).bind fun t101=>((Xaf.f t101 (wrap64 (3+a0))).bind fun t102=>(some t102))
theorem XaG.calls (a0:Int) (r:Int) (w:World) (H:XaG.f a0=some r) :
  Calls Tryz.prog 107 #[.int .i64 a0] w fun e w'=>e = .returned (.int .i64 r)∧Drawn0 w w':=by
 unfold XaG.f at H
 replace H:=bE H;obtain⟨t101,A2,H⟩:=H
 replace H:=bE H;obtain⟨t102,A3,H⟩:=H
 obtain rfl:=sI H
 go_enter Tryz.func107,Tryz.ntmps107
 go_wp2_with (first | (refine gD 136 4 Tryz.func136 (XQ.calls _ _ _ A2.out) ?_;intro nd) | (refine gD 170 7 Tryz.func170 (Xaf.calls _ _ _ _ A3.out) ?_;intro nd))
 go_ret
 exact⟨by first | rfl | (simp;done) | (simp[*];done),dX⟩
def XaH.f (a0:Int):Option (Int):=(Xao.f a0).bind fun t101=>((Xaf.f t101 (wrap64 (10+a0))).bind fun t102=>(some t102))
theorem XaH.calls (a0:Int) (r:Int) (w:World) (H:XaH.f a0=some r) :
  Calls Tryz.prog 108 #[.int .i64 a0] w fun e w'=>e = .returned (.int .i64 r)∧Drawn0 w w':=by
 unfold XaH.f at H
 replace H:=bE H;obtain⟨t101,A2,H⟩:=H
 replace H:=bE H;obtain⟨t102,A3,H⟩:=H
 obtain rfl:=sI H
 go_enter Tryz.func108,Tryz.ntmps108
 go_wp2_with (first | (refine gD 153 4 Tryz.func153 (Xao.calls _ _ _ A2.out) ?_;intro nd) | (refine gD 170 7 Tryz.func170 (Xaf.calls _ _ _ _ A3.out) ?_;intro nd))
 go_ret
 exact⟨by first | rfl | (simp;done) | (simp[*];done),dX⟩
def Xat.f (a0:Int):Option (Int):=(XQ.f a0).bind fun t101=>(if t101=true then (some (Int.tmod a0 3)) else (some (-1)))
theorem Xat.calls (a0:Int) (r:Int) (w:World) (H:Xat.f a0=some r) :
  Calls Tryz.prog 109 #[.int .i64 a0] w fun e w'=>e = .returned (.int .i64 r)∧Drawn0 w w':=by
 unfold Xat.f at H
 replace H:=bE H;obtain⟨t101,A2,H⟩:=H
 go_enter Tryz.func109,Tryz.ntmps109
 cases t101
 case true =>
  rw[if_pos rfl] at H
  obtain rfl:=sI H
  go_wp2_with (refine gD 136 4 Tryz.func136 (XQ.calls _ _ _ A2.out) ?_;intro nd)
  go_ret
  exact⟨by first | rfl | (simp;done) | (simp[*];done),dX⟩
 rw[if_neg nft] at H
 obtain rfl:=sI H
 go_wp2_with (refine gD 136 4 Tryz.func136 (XQ.calls _ _ _ A2.out) ?_;intro nd)
 go_ret
 exact⟨by first | rfl | (simp;done) | (simp[*];done),dX⟩
def XaN.f (a0:Int):Option (Int):=(XQ.f a0).bind fun t101=>((Xaq.f).bind fun t102=>((Xaf.f t101 (wrap64 (t102+a0))).bind fun t103=>(some t103)))
theorem XaN.calls (a0:Int) (r:Int) (w:World) (H:XaN.f a0=some r) :
  Calls Tryz.prog 110 #[.int .i64 a0] w fun e w'=>e = .returned (.int .i64 r)∧Drawn0 w w':=by
 unfold XaN.f at H
 replace H:=bE H;obtain⟨t101,A2,H⟩:=H
 replace H:=bE H;obtain⟨t102,A3,H⟩:=H
 replace H:=bE H;obtain⟨t103,A4,H⟩:=H
 obtain rfl:=sI H
 go_enter Tryz.func110,Tryz.ntmps110
 go_wp2_with (first | (refine gD 136 4 Tryz.func136 (XQ.calls _ _ _ A2.out) ?_;intro nd) | (refine gD 111 5 Tryz.func111 (Xaq.calls _ _ A3.out) ?_;intro nd) | (refine gD 170 8 Tryz.func170 (Xaf.calls _ _ _ _ A4.out) ?_;intro nd))
 go_ret
 exact⟨by first | rfl | (simp;done) | (simp[*];done),dX⟩
end Go.Proofs.YthejoblnfpaojaaGreat.P
