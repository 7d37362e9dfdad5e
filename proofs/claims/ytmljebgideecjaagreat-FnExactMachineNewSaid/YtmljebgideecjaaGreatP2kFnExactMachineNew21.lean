/- A part of the proof of the law FnExactMachineNew: texts of this seat, merged (words, printed functions of the program, plain lemmas). Conditions: none of its own. -/
import Derived.Test.YtmljebgideecjaaGreatP2kFnExactMachineNew14
import Derived.Test.YtmljebgideecjaaGreatP2kFnExactMachineNew15
set_option linter.unusedSimpArgs false
set_option linter.unusedVariables false
set_option maxHeartbeats 8000000
set_option maxRecDepth 100000
namespace Go.Proofs.YtmljebgideecjaaGreat.P2
open Go.Proofs.YtmljebgideecjaaGreatZ Go.RowKit Go.Proofs.YtmljebgideecjaaGreatW.PrintWords Go.Proofs.YtmljebgideecjaaGreatW.PrintLast Go.Proofs.YtmljebgideecjaaGreatW.PrintMore
attribute [local go_sem] max2_int min2_int max_two min_two max_three min_three max_four min_four   -- for this text's walks alone
def Xn.l0:Nat→Int→List Int→Int→Option (Bool)
 | 0,_,_,_=>none
 | k+1,x3,x102000,x102001=>if x3<(x102000.length:Int) then (if 0≤x3 then (if (rd x102000 x3)=0 then (Xn.l0 k (wrap64 (x3+1)) x102000 x102001) else ((XB.f (rd x102000 x3)).bind fun t105=>(if t105=true then ((Xak.f k x102000 x102001 (rd x102000 x3)).bind fun t107=>(if t107=x3 then (Xn.l0 k (wrap64 (x3+1)) x102000 x102001) else (some false))) else (some false)))) else (none)) else (if (x102000.length:Int)=4 then ((Xb.f x102001 0 5).bind fun t102=>(some t102)) else (some false))
def Xn.f (k:Nat) (l0_0:List Int) (a0_1:Int):Option (Bool):=Xn.l0 k 0 l0_0 a0_1
def Xn.T4:Bool × List (List Nat × List Nat):=(true,[([],[]),([0],[0]),([],[]),([1,2],[1,2]),([3],[3]),([4],[4]),([5],[5]),([6],[6]),([7,6],[6,7]),([6],[6]),([8,9,6],[6,8,9]),([10,6],[6,10]),([11,6,6],[6,11]),([12,6],[6,12]),([13,12,6],[6,13]),([14],[14]),([14],[14]),([16,14],[14,16]),([14],[14]),([17,18,14],[14,17,18]),([19,14],[14,19]),([15,20,14,14],[14,15,20]),([14],[14]),([21,22,14],[14,21,22]),([14,23,6],[6,14,23]),([6,24],[6,24])])
def Xn.B4:List Nat:=[0,1,0,7,15,31,63,127,255,127,1023,2047,4095,8191,16383,32767,32767,98303,32767,491519,1015807,2097151,32767,8388607,16777215,33554431]
theorem Xn.tab4:rtab .any (opsOf Tryz.f93 4)=Xn.T4:=by kernel_rfl
theorem Xn.bits4:waitsOk Xn.T4.2 Xn.B4=true:=by kernel_rfl
theorem Xn.calls (k:Nat) (A0_0:Option Addr) (c0_0:Nat) (l0_0:List Int) (a0_1:Int) (r:Bool) (w:World) (h0_0:Rw (Kd.int .i64) w A0_0 c0_0 l0_0) (H:Xn.f k l0_0 a0_1=some r) :
  Calls Tryz.prog 93 #[.agg #[.slice A0_0 l0_0.length c0_0,.int .i64 a0_1]] w fun e w'=>e = .returned (.bool r)∧Below w.heap.size w w':=by
 have hu41:=Tryz.underlying41
 obtain⟨HR0_0,HC0_0⟩:=h0_0
 have HB:=aM (Below.refl w.heap.size w)
 unfold Xn.f at H
 have H':=aM H
 clear H
 go_enter Tryz.func93,Tryz.ntmps93
 go_wp2_with (refine boxE 1 #[.slice A0_0 l0_0.length c0_0,.int .i64 a0_1] 41 ?_;intro gbz1 hg wz1 hbox hb;have BKz1:=aM (hbox);have GWz1:=aG hg HB;replace HB:=aS HB hb;clear hb hbox hg)
 go_loopg [3] k (fun kq v3 w'=>∃ (x3_1:Int),v3 = .int .i64 x3_1∧Aside0 (Xn.l0 kq x3_1 l0_0 a0_1=some r)∧Aside0 (kq≤k)∧Aside0 (w'.heap[gbz1]? = some (.cells #[(.slice A0_0 l0_0.length c0_0),.int .i64 a0_1] 41 (0,0)))∧Aside0 (Below w.heap.size w w'))
 case atStart=>exact⟨(0),rS,H',⟨Nat.le_refl _⟩,⟨(bX BKz1.out)⟩,⟨(hX HB.out)⟩⟩
 case round =>
  clear H'
  obtain⟨x3_1,rfl,HA,HKy1,BKz1,HB⟩:=hrel
  cases gk with
  | zero=>exact absurd HA.out (by simp[Xn.l0])
  | succ k1 =>
   have H:=HA.out
   clear HA
   simp only[Xn.l0] at H
   revert H;refine iN ?_ ?_<;>intro c3b0 H
   ·revert H;refine eN ?_ ?_<;>intro c20b0 c20b1 H
    ·obtain rfl:=sI H
     have hczx1:=cZ2 BKz1.out
     exact fS
    replace H:=bE H;obtain⟨t102,A21,H⟩:=H
    obtain rfl:=sI H
    have hczx1:=cZ2 BKz1.out
    go_wp2_with (go_at_call 43;(with_reducible refine(Xb.calls _ _ _ _ _ A21.out).mono ?_);rintro e w' ⟨rfl,⟨nd,rfl⟩⟩)
    go_ret
    exact⟨rE,(hX HB.out)⟩
   replace H:=ifQ H;obtain⟨c4b0,H⟩:=H
   revert H;refine eP ?_ ?_<;>intro c5b0 c5b1 H
   ·have H':=aM H
    clear H
    have hczx1:=cZ2 BKz1.out
    try go_wp2
    obtain⟨adx1,ex1,px1,qx1,hxx1⟩:=at_ic HR0_0 HB x3_1
    cases ex1
    have hcb0_:=cV2 BKz1.out
    refine sR0 26 Xn.tab4 Xn.bits4 (fun HT_ HW_ hHeld => ?_)
    refine zA 0 ?_
    refine zA 2 ?_
    refine tA 1 ?_
    refine zA 3 ?_
    refine tA 4 ?_
    refine zA 5 ?_
    refine zA 6 ?_
    refine uA 7 ?_
    refine uA 8 ?_
    refine uA 9 ?_
    refine uA 10 ?_
    refine uA 11 ?_
    refine uA 12 ?_
    refine uA 13 ?_
    refine uA 14 ?_
    refine uA 15 ?_
    refine uA 16 ?_
    refine uA 17 ?_
    refine uA 18 ?_
    refine uA 19 ?_
    refine uA 20 ?_
    refine uA 21 ?_
    refine uA 22 ?_
    refine uA 23 ?_
    refine uA 24 ?_
    refine zA 25 ?_
    refine dA ?_
    try go_wp2
    go_roundg k1
    case measure=>have:=HKy1.out;omega
    case rel=>exact⟨(wrap64 (x3_1+1)),rS,H',⟨by have:=HKy1.out;omega⟩,⟨(bX BKz1.out)⟩,⟨(hX HB.out)⟩⟩
   replace H:=bE H;obtain⟨t105,A8,H⟩:=H
   cases t105
   case false =>
    rw[if_neg nft] at H
    obtain rfl:=sI H
    have hczx1:=cZ2 BKz1.out
    try go_wp2
    obtain⟨adx1,ex1,px1,qx1,hxx1⟩:=at_ic HR0_0 HB x3_1
    cases ex1
    obtain⟨adx2,ex2,px2,qx2,hxx2⟩:=at_ic HR0_0 HB x3_1
    obtain rfl:adx1=adx2:=(by injection ex2)
    have hcb0_:=cV2 BKz1.out
    refine sR0 26 Xn.tab4 Xn.bits4 (fun HT_ HW_ hHeld => ?_)
    refine zA 0 ?_
    refine zA 2 ?_
    refine tA 1 ?_
    refine zA 3 ?_
    refine tA 4 ?_
    refine zA 5 ?_
    refine zA 6 ?_
    refine zA 7 ?_
    refine zA 9 ?_
    refine tA 8 ?_
    refine zA 10 ?_
    refine tA 11 ?_
    refine eD 12 Tryz.func159 (XB.calls _ _ _ A8.out) (fun nd hHeld => ?_)
    refine zA 13 ?_
    refine zA 14 ?_
    refine uA 15 ?_
    refine uA 16 ?_
    refine uA 17 ?_
    refine uA 18 ?_
    refine uA 19 ?_
    refine uA 20 ?_
    refine uA 21 ?_
    refine uA 22 ?_
    refine uA 23 ?_
    refine zA 24 ?_
    refine zA 25 ?_
    refine dA ?_
    try go_wp2
    go_ret
    exact⟨rE,(hX HB.out)⟩
   rw[if_pos rfl] at H
   replace H:=bE H;obtain⟨t107,A10,H⟩:=H
   revert H;refine eN ?_ ?_<;>intro c11b0 c11b1 H
   ·obtain rfl:=sI H
    have hczx1:=cZ2 BKz1.out
    try go_wp2
    obtain⟨adx1,ex1,px1,qx1,hxx1⟩:=at_ic HR0_0 HB x3_1
    cases ex1
    obtain⟨adx2,ex2,px2,qx2,hxx2⟩:=at_ic HR0_0 HB x3_1
    obtain rfl:adx1=adx2:=(by injection ex2)
    obtain⟨adx3,ex3,px3,qx3,hxx3⟩:=at_ic HR0_0 HB x3_1
    obtain rfl:adx1=adx3:=(by injection ex3)
    have hcb0_:=cV2 BKz1.out
    refine sR0 26 Xn.tab4 Xn.bits4 (fun HT_ HW_ hHeld => ?_)
    refine zA 0 ?_
    refine zA 2 ?_
    refine tA 1 ?_
    refine zA 3 ?_
    refine tA 4 ?_
    refine zA 5 ?_
    refine zA 6 ?_
    refine zA 7 ?_
    refine zA 9 ?_
    refine tA 8 ?_
    refine zA 10 ?_
    refine tA 11 ?_
    refine eD 12 Tryz.func159 (XB.calls _ _ _ A8.out) (fun nd hHeld => ?_)
    refine zA 13 ?_
    refine zA 14 ?_
    refine zA 16 ?_
    refine zA 18 ?_
    refine zA 22 ?_
    refine tA 15 ?_
    refine tA 17 ?_
    refine zA 19 ?_
    refine tA 20 ?_
    refine eB 21 Tryz.func160 (Xak.calls _ _ _ _ _ _ _ _ (rW HR0_0 HB HC0_0) A10.out) (fun wx2 hb hHeld => ?_)
    replace BKz1:=aB BKz1 hb
    replace HB:=aS HB hb
    (try clear hb)
    refine zA 23 ?_
    refine zA 24 ?_
    refine zA 25 ?_
    refine dA ?_
    try go_wp2
    go_ret
    exact⟨rE,(hX HB.out)⟩
   have H':=aM H
   clear H
   have hczx1:=cZ2 BKz1.out
   try go_wp2
   obtain⟨adx1,ex1,px1,qx1,hxx1⟩:=at_ic HR0_0 HB x3_1
   cases ex1
   obtain⟨adx2,ex2,px2,qx2,hxx2⟩:=at_ic HR0_0 HB x3_1
   obtain rfl:adx1=adx2:=(by injection ex2)
   obtain⟨adx3,ex3,px3,qx3,hxx3⟩:=at_ic HR0_0 HB x3_1
   obtain rfl:adx1=adx3:=(by injection ex3)
   have hcb0_:=cV2 BKz1.out
   refine sR0 26 Xn.tab4 Xn.bits4 (fun HT_ HW_ hHeld => ?_)
   refine zA 0 ?_
   refine zA 2 ?_
   refine tA 1 ?_
   refine zA 3 ?_
   refine tA 4 ?_
   refine zA 5 ?_
   refine zA 6 ?_
   refine zA 7 ?_
   refine zA 9 ?_
   refine tA 8 ?_
   refine zA 10 ?_
   refine tA 11 ?_
   refine eD 12 Tryz.func159 (XB.calls _ _ _ A8.out) (fun nd hHeld => ?_)
   refine zA 13 ?_
   refine zA 14 ?_
   refine zA 16 ?_
   refine zA 18 ?_
   refine zA 22 ?_
   refine tA 15 ?_
   refine tA 17 ?_
   refine zA 19 ?_
   refine tA 20 ?_
   refine eB 21 Tryz.func160 (Xak.calls _ _ _ _ _ _ _ _ (rW HR0_0 HB HC0_0) A10.out) (fun wx2 hb hHeld => ?_)
   replace BKz1:=aB BKz1 hb
   replace HB:=aS HB hb
   (try clear hb)
   refine zA 23 ?_
   refine zA 24 ?_
   refine zA 25 ?_
   refine dA ?_
   try go_wp2
   go_roundg k1
   case measure=>have:=HKy1.out;omega
   case rel=>exact⟨(wrap64 (x3_1+1)),rS,H',⟨by have:=HKy1.out;omega⟩,⟨(bX BKz1.out)⟩,⟨(hX HB.out)⟩⟩
mutual
def XT.j0:Nat→Bool→Int→Int→Int→Option (Bool)
 | 0,_,_,_,_=>none
 | k+1,x3,x102000,x102001,x102002=>if x102000=6 then ((Xb.f x102001 0 2).bind fun t105=>(XT.j1 k t105 x102000 x102001 x102002)) else (XT.j1 k x3 x102000 x102001 x102002)
def XT.j1:Nat→Bool→Int→Int→Int→Option (Bool)
 | 0,_,_,_,_=>none
 | k+1,x3,x102000,x102001,x102002=>(Xa8.f x102000).bind fun t106=>(if t106=true then (if x3=true then ((XB.f x102002).bind fun t107=>(some t107)) else (some false)) else (if x3=true then (some (x102002 == 0)) else (some false)))
end
def XT.f (k:Nat) (a0_0:Int) (a0_1:Int) (a0_2:Int):Option (Bool):=(Xb.f a0_0 1 10).bind fun t102=>(if t102=true then ((Xbd.f a0_0).bind fun t103=>(if t103=true then ((XaJ.f a0_1).bind fun t104=>(XT.j0 k t104 a0_0 a0_1 a0_2)) else (XT.j0 k (a0_1 == 0) a0_0 a0_1 a0_2))) else (some false))
theorem XT.calls (k:Nat) (a0_0:Int) (a0_1:Int) (a0_2:Int) (r:Bool) (w:World) (H:XT.f k a0_0 a0_1 a0_2=some r) :
  Calls Tryz.prog 138 #[.agg #[.int .i64 a0_0,.int .i64 a0_1,.int .i64 a0_2]] w fun e w'=>e = .returned (.bool r)∧Below w.heap.size w w':=by
 have hu69:=Tryz.underlying69
 have HB:=aM (Below.refl w.heap.size w)
 unfold XT.f at H
 replace H:=bE H;obtain⟨t102,A2,H⟩:=H
 go_enter Tryz.func138,Tryz.ntmps138
 cases t102
 case false =>
  rw[if_neg nft] at H
  obtain rfl:=sI H
  go_wp2_with (first | (refine boxE 1 #[.int .i64 a0_0,.int .i64 a0_1,.int .i64 a0_2] 69 ?_;intro gbz1 hg wz1 hbox hb;have BKz1:=aM (hbox);have GWz1:=aG hg HB;have GEz1:=aG hg HB;replace HB:=aS HB hb;clear hb hbox hg;have hczz1:=cZ3 BKz1.out) | (refine gD 43 6 Tryz.func43 (Xb.calls _ _ _ _ _ A2.out) ?_;intro nd))
  go_ret
  exact⟨rE,(hX HB.out)⟩
 rw[if_pos rfl] at H
 replace H:=bE H;obtain⟨t103,A4,H⟩:=H
 have HC5:=aM H
 clear H
 go_upto_if 13 with(first | ((with_reducible refine gate_dst (N:=1) rfl ?_);refine boxE 1 #[.int .i64 a0_0,.int .i64 a0_1,.int .i64 a0_2] 69 ?_;intro gbz1 hg wz1 hbox hb;have BKz1:=aM (hbox);have GWz1:=aG hg HB;have GEz1:=aG hg HB;replace HB:=aS HB hb;clear hb hbox hg;have hczz1:=cZ3 BKz1.out) | ((with_reducible refine gate_callee (f:=43) rfl ?_);refine gD 43 6 Tryz.func43 (Xb.calls _ _ _ _ _ A2.out) ?_;intro nd) | ((with_reducible refine gate_callee (f:=192) rfl ?_);refine gD 192 13 Tryz.func192 (Xbd.calls _ _ _ A4.out) ?_;intro nd))
 (try simp only[Act.put,List.setIfInBounds_toArray,List.set_cons_zero,List.set_cons_succ])
 go_cut [3] (fun vz1 wc=>∃ (kq:Nat) (x3_4:Bool),vz1 = .bool x3_4∧Aside0 (XT.j0 kq x3_4 a0_0 a0_1 a0_2=some r)∧Aside0 (kq≤k)∧Aside0 (wc.heap[gbz1]? = some (.cells #[.int .i64 a0_0,.int .i64 a0_1,.int .i64 a0_2] 69 (0,0)))∧Aside0 (Below w.heap.size w wc))
 case first =>
  have H:=HC5.out
  clear HC5
  cases t103
  case false =>
   rw[if_neg nft] at H
   have H':=aM H
   clear H
   go_wp2
   go_meet
   case rel=>exact⟨_,((a0_1 == 0)),rS,H',⟨by first | omega | exact Nat.le_refl _⟩,⟨(bX BKz1.out)⟩,⟨(hX HB.out)⟩⟩
  rw[if_pos rfl] at H
  replace H:=bE H;obtain⟨t104,A9,H⟩:=H
  have H':=aM H
  clear H
  have hczy1:=cZ3 BKz1.out
  go_wp2_with (refine gD 198 16 Tryz.func198 (XaJ.calls _ _ _ A9.out) ?_;intro nd)
  go_meet
  case rel=>exact⟨_,(t104),rS,H',⟨by first | omega | exact Nat.le_refl _⟩,⟨(bX BKz1.out)⟩,⟨(hX HB.out)⟩⟩
 case rest =>
  clear HC5
  try clear hczz1
  obtain⟨kq,x3_4,rfl,HA,HJy1,BKz1,HB⟩:=hcut
  cases kq with
  | zero=>exact absurd HA.out (by simp[XT.j0])
  | succ kj4 =>
   have H:=HA.out
   clear HA
   simp only[XT.j0] at H
   have HC11:=aM H
   clear H
   have hczx1:=cZ3 BKz1.out
   go_upto_if 19 with(fail)
   go_cut [3] (fun vz1 wc=>∃ (kq:Nat) (x3_10:Bool),vz1 = .bool x3_10∧Aside0 (XT.j1 kq x3_10 a0_0 a0_1 a0_2=some r)∧Aside0 (kq≤kj4)∧Aside0 (wc.heap[gbz1]? = some (.cells #[.int .i64 a0_0,.int .i64 a0_1,.int .i64 a0_2] 69 (0,0)))∧Aside0 (Below w.heap.size w wc))
   case first =>
    have H:=HC11.out
    clear HC11
    revert H;refine eN ?_ ?_<;>intro c13b0 c13b1 H
    ·(first | rw[c13b0] | (simp only[i64_w,i32_w];rw[c13b0]) | skip)
     have H':=aM H
     clear H
     go_wp2
     go_meet
     case rel=>exact⟨_,(x3_4),rS,H',⟨by have:=HJy1.out;first | omega | exact Nat.le_refl _⟩,⟨(bX BKz1.out)⟩,⟨(hX HB.out)⟩⟩
    (first | rw[c13b0] | (simp only[i64_w,i32_w];rw[c13b0]) | skip)
    replace H:=bE H;obtain⟨t105,A14,H⟩:=H
    have H':=aM H
    clear H
    have hczw1:=cZ3 BKz1.out
    go_wp2_with (refine gD 43 22 Tryz.func43 (Xb.calls _ _ _ _ _ A14.out) ?_;intro nd)
    go_meet
    case rel=>exact⟨_,(t105),rS,H',⟨by have:=HJy1.out;first | omega | exact Nat.le_refl _⟩,⟨(bX BKz1.out)⟩,⟨(hX HB.out)⟩⟩
   case rest =>
    clear HC11
    try clear hczx1
    try clear hczz1
    obtain⟨kq,x3_10,rfl,HA,HJw1,BKz1,HB⟩:=hcut
    cases kq with
    | zero=>exact absurd HA.out (by simp[XT.j1])
    | succ kj10 =>
     have H:=HA.out
     clear HA
     simp only[XT.j1] at H
     replace H:=bE H;obtain⟨t106,A16,H⟩:=H
     cases t106
     case false =>
      rw[if_neg nft] at H
      have hczv1:=cZ3 BKz1.out
      go_wp2_with (refine gD 193 25 Tryz.func193 (Xa8.calls _ _ _ A16.out) ?_;intro nd;refine Stop.out ?_)
      refine⟨?_⟩
      cases x3_10
      case true =>
       rw[if_pos rfl] at H
       exact fR
      rw[if_neg nft] at H
      exact fR
     rw[if_pos rfl] at H
     have hczv1:=cZ3 BKz1.out
     go_wp2_with (refine gD 193 25 Tryz.func193 (Xa8.calls _ _ _ A16.out) ?_;intro nd;refine Stop.out ?_)
     refine⟨?_⟩
     cases x3_10
     case false =>
      rw[if_neg nft] at H
      exact fR
     rw[if_pos rfl] at H
     replace H:=bE H;obtain⟨t107,A19,H⟩:=H
     obtain rfl:=sI H
     go_wp2_with (go_at_call 159;(with_reducible refine(XB.calls _ _ _ A19.out).mono ?_);rintro e w' ⟨rfl,⟨nd,rfl⟩⟩)
     go_ret
     exact⟨rE,(hX HB.out)⟩
def Xa9.f (a0:Int):Option (Int):=(XaJ.f a0).bind fun t101=>(if t101=true then (some a0) else (some (-1)))
theorem Xa9.calls (a0:Int) (r:Int) (w:World) (H:Xa9.f a0=some r) :
  Calls Tryz.prog 143 #[.int .i64 a0] w fun e w'=>e = .returned (.int .i64 r)∧Drawn0 w w':=by
 unfold Xa9.f at H
 replace H:=bE H;obtain⟨t101,A2,H⟩:=H
 go_enter Tryz.func143,Tryz.ntmps143
 cases t101
 case true =>
  rw[if_pos rfl] at H
  obtain rfl:=sI H
  go_wp2_with (refine gD 198 4 Tryz.func198 (XaJ.calls _ _ _ A2.out) ?_;intro nd)
  go_ret
  exact⟨by first | rfl | (simp;done) | (simp[*];done),dX⟩
 rw[if_neg nft] at H
 obtain rfl:=sI H
 go_wp2_with (refine gD 198 4 Tryz.func198 (XaJ.calls _ _ _ A2.out) ?_;intro nd)
 go_ret
 exact⟨by first | rfl | (simp;done) | (simp[*];done),dX⟩
def XaW.f (a0:Int):Option (Int):=(XB.f a0).bind fun t101=>(if t101=true then (some (wrap64 (3+a0))) else (some (-1)))
theorem XaW.calls (a0:Int) (r:Int) (w:World) (H:XaW.f a0=some r) :
  Calls Tryz.prog 144 #[.int .i64 a0] w fun e w'=>e = .returned (.int .i64 r)∧Drawn0 w w':=by
 unfold XaW.f at H
 replace H:=bE H;obtain⟨t101,A2,H⟩:=H
 go_enter Tryz.func144,Tryz.ntmps144
 cases t101
 case true =>
  rw[if_pos rfl] at H
  obtain rfl:=sI H
  go_wp2_with (refine gD 159 4 Tryz.func159 (XB.calls _ _ _ A2.out) ?_;intro nd)
  go_ret
  exact⟨by first | rfl | (simp;done) | (simp[*];done),dX⟩
 rw[if_neg nft] at H
 obtain rfl:=sI H
 go_wp2_with (refine gD 159 4 Tryz.func159 (XB.calls _ _ _ A2.out) ?_;intro nd)
 go_ret
 exact⟨by first | rfl | (simp;done) | (simp[*];done),dX⟩
def Xba.f (a0:Int):Option (Int):=(XB.f a0).bind fun t101=>(if t101=true then ((XaC.f).bind fun t102=>(some (wrap64 (t102+a0)))) else (some (-1)))
theorem Xba.calls (a0:Int) (r:Int) (w:World) (H:Xba.f a0=some r) :
  Calls Tryz.prog 145 #[.int .i64 a0] w fun e w'=>e = .returned (.int .i64 r)∧Drawn0 w w':=by
 unfold Xba.f at H
 replace H:=bE H;obtain⟨t101,A2,H⟩:=H
 go_enter Tryz.func145,Tryz.ntmps145
 cases t101
 case false =>
  rw[if_neg nft] at H
  obtain rfl:=sI H
  go_wp2_with (refine gD 159 4 Tryz.func159 (XB.calls _ _ _ A2.out) ?_;intro nd)
  go_ret
  exact⟨by first | rfl | (simp;done) | (simp[*];done),dX⟩
 rw[if_pos rfl] at H
 replace H:=bE H;obtain⟨t102,A4,H⟩:=H
 obtain rfl:=sI H
 go_wp2_with (first | (refine gD 159 4 Tryz.func159 (XB.calls _ _ _ A2.out) ?_;intro nd) | (refine gD 115 6 Tryz.func115 (XaC.calls _ _ A4.out) ?_;intro nd))
 go_ret
 exact⟨by first | rfl | (simp;done) | (simp[*];done),dX⟩
def XaX.f (a0:Int):Option (Int):=(XB.f a0).bind fun t101=>(if t101=true then (some (Int.tmod a0 3)) else (some (-1)))
theorem XaX.calls (a0:Int) (r:Int) (w:World) (H:XaX.f a0=some r) :
  Calls Tryz.prog 202 #[.int .i64 a0] w fun e w'=>e = .returned (.int .i64 r)∧Drawn0 w w':=by
 unfold XaX.f at H
 replace H:=bE H;obtain⟨t101,A2,H⟩:=H
 go_enter Tryz.func202,Tryz.ntmps202
 cases t101
 case true =>
  rw[if_pos rfl] at H
  obtain rfl:=sI H
  go_wp2_with (refine gD 159 4 Tryz.func159 (XB.calls _ _ _ A2.out) ?_;intro nd)
  go_ret
  exact⟨by first | rfl | (simp;done) | (simp[*];done),dX⟩
 rw[if_neg nft] at H
 obtain rfl:=sI H
 go_wp2_with (refine gD 159 4 Tryz.func159 (XB.calls _ _ _ A2.out) ?_;intro nd)
 go_ret
 exact⟨by first | rfl | (simp;done) | (simp[*];done),dX⟩
def XJ.l0:Nat→List (List (S116))→List (List (S69))→Int→Option ((List (List (S69))))
 | 0,_,_,_=>none
 | k+1,x0,x3,x4=>if x4<(x0.length:Int) then (if 0≤x4 then ((Xaj.f k (rd_L10 x0 x4)).bind fun t105=>(if x4<(x3.length:Int) then (XJ.l0 k x0 (x3.set (x4:Int).toNat t105) (wrap64 (x4+1))) else (none))) else (none)) else (some x3)
def XJ.f (k:Nat) (l0:List (List (S116))):Option ((List (List (S69)))):=if 0≤(l0.length:Int) then (if ((l0.length:Int):Int).toNat≤11728124029610 then (XJ.l0 k l0 (List.replicate ((l0.length:Int):Int).toNat []) 0) else (none)) else (none)
theorem XJ.calls (k:Nat) (A0:Option Addr) (c0:Nat) (l0:List (List (S116))) (r:List (List (S69))) (w:World) (h0:Rw (Kd.slice 116 k116) w A0 c0 l0) (H:XJ.f k l0=some r) :
  Calls Tryz.prog 21 #[.slice A0 l0.length c0] w fun e w'=>∃ v0_:Value,e = .returned (v0_)∧Kd.S (Kd.slice 69 k69) 93 w' w.heap.size (fun _=>True) v0_ r∧Below w.heap.size w w':=by
 obtain⟨HR0,HC0⟩:=h0
 have HB:=aM (Below.refl w.heap.size w)
 unfold XJ.f at H
 replace H:=ifP H;obtain⟨c2,H⟩:=H
 have c2b0:=eq_true c2
 have c2b1:=decide_eq_true c2
 clear c2
 replace H:=ifP H;obtain⟨c3,H⟩:=H
 have c3b0:=eq_true c3
 have c3b1:=decide_eq_true c3
 clear c3
 obtain⟨y101,hy101⟩:∃ y_:List (List (S69)),y_=(List.replicate ((l0.length:Int):Int).toNat []):=⟨_,rfl⟩
 replace H:(XJ.l0 k l0 y101 0)=some r:=yH H hy101
 have Ny101:=aM hy101
 clear hy101
 have H':=aM H
 clear H
 go_enter Tryz.func21,Tryz.ntmps21
 go_wp2_with ((with_reducible refine gate_dst (N:=7) rfl ?_);refine Kd.S_make (Kd.slice 69 k69) _ 93 rfl (N:=7) rfl 54 _ _ rfl (l0.length:Int) rfl rfl Tryz.underlying54 (.slice none 0 0) 24 info93 rfl (by decide) (by omega) [] (ok:=fun _=>True) (okp:=fun _=>True) ⟨_,rfl,Kd.R_nil _ _ _ _ _⟩ (fun _ hk=>hk) trivial (odA) (Nat.le_trans (Nat.mul_le_mul_right _ (odA:(l0.length:Int).toNat≤11728124029610)) (by omega)) (Below.refl _ _) (Nat.le_refl _) ?_;intro vz1 wz1 hoz1 hb hg_ hnew_;clear hg_ hnew_;(first | rw[← Ny101.out] at hoz1 | (simp only[Int.reduceToNat] at hoz1;rw[← Ny101.out] at hoz1));have HOz1:=aM (Kd.S_lower hoz1 (below_size (hX HB.out)));replace HB:=aS HB hb;clear hb hoz1)
 go_loopg [4] k (fun kq v4 w'=>∃ (x3_1:List (List (S69))) (x4_1:Int),v4 = .int .i64 x4_1∧Aside0 (XJ.l0 kq l0 x3_1 x4_1=some r)∧Aside0 (kq≤k)∧Aside0 (Kd.S (Kd.slice 69 k69) 93 w' w.heap.size (fun _=>True) vz1 x3_1)∧Aside0 (Below w.heap.size w w'))
 case atStart=>exact⟨(y101),(0),rS,H',⟨Nat.le_refl _⟩,⟨(sX HOz1.out)⟩,⟨(hX HB.out)⟩⟩
 case round =>
  clear H'
  try clear c2
  try clear c2b0
  try clear c2b1
  try clear c3
  try clear c3b0
  try clear c3b1
  obtain⟨x3_1,x4_1,rfl,HA,HKy1,HO_y1,HB⟩:=hrel
  cases gk with
  | zero=>exact absurd HA.out (by simp[XJ.l0])
  | succ k1 =>
   have H:=HA.out
   clear HA
   simp only[XJ.l0] at H
   revert H;refine iN ?_ ?_<;>intro c6b0 H
   ·obtain rfl:=sI H
    go_wp2
    go_ret
    exact⟨_,rE,(sX HO_y1.out),(hX HB.out)⟩
   replace H:=ifQ H;obtain⟨c7b0,H⟩:=H
   replace H:=bE H;obtain⟨t105,A8,H⟩:=H
   replace H:=ifQ H;obtain⟨c9b0,H⟩:=H
   obtain⟨y108,hy108⟩:∃ y_:List (List (S69)),y_=(x3_1.set (x4_1:Int).toNat t105):=⟨_,rfl⟩
   replace H:(XJ.l0 k1 l0 y108 (wrap64 (x4_1+1)))=some r:=yH H hy108
   have Ny108:=aM hy108
   clear hy108
   have H':=aM H
   clear H
   have px1:0≤(x4_1:Int):=odA
   have qx1:x4_1<(l0.length:Int):=odA
   obtain⟨adx1,Ax1,cx1,ex1,hxx1,hlx1,hix1⟩:=at_L10 HR0.out x4_1 px1 qx1
   cases ex1
   replace hxx1:=bc HB.out hxx1
   have HRx1:=aM hix1
   have HCx1:=aM hlx1
   clear hix1 hlx1
   replace px1:=eq_true px1
   replace qx1:=eq_true qx1
   go_wp2_with (first | (refine goesM 66 20 Tryz.func66 #[.slice Ax1 (rd_L10 l0 x4_1).length cx1] ?_;refine(Xaj.calls _ _ _ _ _ _ (rW HRx1 HB HCx1) A8.out).mono ?_;rintro e wx1 ⟨vx1,rfl,hox1,hb⟩;refine⟨_,rfl,?_⟩;have HOx1:=aM (Kd.R_lower hox1 (below_size (hX HB.out)));replace HO_y1:=aM (Kd.S_elder' (sX HO_y1.out) (Kd.R_base hox1) hb);replace HB:=aS HB hb;clear hb hox1;obtain⟨Aq1,cq1,eq1_⟩:=Kd.R_slice HOx1.out;subst eq1_;have px2:0≤(x4_1:Int):=odA;have qx2:(x4_1:Int)<((x3_1.length:Int):Int):=odA;obtain⟨gox1,cox1,eox1,gbx1,glx1,clx1,HGx1⟩:=Kd.S_form HO_y1.out (by omega);(first | cases eox1 | (injection eox1 with ea_ en_ ec_;(first | subst ea_ | (injection ea_ with ea_;subst ea_));subst ec_;clear en_));have GBx1:=aM gbx1;have GGx1:=aM HGx1;clear gbx1 glx1 HGx1;obtain⟨_,cex1,hclx1,hMx1,hccx1,hfrx1,_,_⟩:=Kd.S_elem HO_y1.out [] (x4_1:Int) px2 qx2;obtain⟨vex1,rfl,gex1⟩:=hMx1;have hxx2:=hccx1 0 _ rfl;have hfx1:=hfrx1 0;(try simp only[show ((Kd.slice 69 k69)).sz=1 from rfl,Nat.mul_one,Nat.add_zero] at hxx2);(try simp only[show ((Kd.slice 69 k69)).sz=1 from rfl,Nat.mul_one,Nat.add_zero] at hfx1);clear hclx1 hccx1 hfrx1;replace px2:=eq_true px2;replace qx2:=eq_true qx2;have n_:=aM (Kd.S_mono (ok':=(fun k_=>some k_ ≠ ((.slice Aq1 t105.length cq1):Value).ownBlock)) HO_y1.out (fun k_ hk=>hk.2));clear HO_y1;have HO_y1:=n_;clear n_;have HXx1:=aM (show Kd.S (Kd.slice 69 k69) 93 wx1 w.heap.size (fun k_=>((fun _=>True)) k_∧¬ ((fun k_=>some k_=((.slice Aq1 t105.length cq1):Value).ownBlock)) k_) (.slice (some ⟨gox1,0,none⟩) x3_1.length cox1) x3_1 from (by (with_reducible repeat (first | apply Kd.S_alloc | apply Kd.S_drewN | apply Kd.S_drew));exact Kd.S_mono HO_y1.out (fun k_ hk=>⟨trivial,fun e_=>hk e_⟩)));obtain⟨okix1,cex2,hclx2,hMx2,hccx2,hfrx2,hokix1,hHx1⟩:=Kd.S_elem HXx1.out [] (x4_1:Int) (odA) (by have h_:(x4_1:Int)<((x3_1.length:Int):Int):=odA;first | exact h_ | (have e_:=(Kd.S_reads' HO_y1.out).1;omega) | simpa using h_);obtain⟨vex2,rfl,gex2⟩:=hMx2;have HPx1:=Kd.S_seg hHx1 (odA) (by have h_:(x4_1:Int)<((x3_1.length:Int):Int):=odA;first | exact h_ | (have e_:=(Kd.S_reads' HO_y1.out).1;omega) | simpa using h_) (seg:=[(.slice Aq1 t105.length cq1)]) (j:=0) (show 1≤1 from by decide) (x':=t105) (Kd.M_row (Kd.R_mono (Kd.R_tight rfl (Kd.R_mono (ok':=fun k_=>((fun _=>True)) k_∧k_ ≠ gox1) (Kd.R_apart' (HOx1.out) (Kd.S_typed HO_y1.out) (by decide)) (fun k_ hk=>⟨trivial,fun e_=>(hk.2) (by rw[e_];rfl)⟩))) (fun _ h_=>Or.inr (h_)))) (fun _ hk=>hk) (fun k_ hk_=>((Kd.R_mono (ok':=fun k_=>((fun _=>True)) k_∧k_ ≠ gox1) (Kd.R_apart' (HOx1.out) (Kd.S_typed HO_y1.out) (by decide)) (fun k_ hk=>⟨trivial,fun e_=>(hk.2) (by rw[e_];rfl)⟩))).1 k_ hk_.symm);have hxx3:=hccx2 0 _ rfl;(try simp only[show ((Kd.slice 69 k69)).sz=1 from rfl,Nat.mul_one,Nat.add_zero] at hxx3);have hfx2:=hfrx2 0;(try simp only[show ((Kd.slice 69 k69)).sz=1 from rfl,Nat.mul_one,Nat.add_zero] at hfx2);clear hclx2 hccx2 hfrx2 hokix1 hHx1;(try simp only[show ((Kd.slice 69 k69)).sz=1 from rfl,Nat.mul_one,Nat.add_zero] at HPx1)) | ((with_reducible refine gate_store (t:=93) (p:=21) rfl ?_);refine store_event (t:=93) (p:=21) (v:=?vo_wx2) (w1:=(wx1.setCell ⟨gox1,(x4_1:Int).toNat,none⟩ ((.slice Aq1 t105.length cq1)))) ?hg ?ho ?hn ?hr ?_;(case ho=>rfl);(case hg=>rfl);(case hn=>rfl);(case hr=>first | (go_simp;done) | (go_simp;rfl));intro wx2 hw;have hg:wx1.grownBy wx2 (some gox1):=(by rw[hw];exact HPx1.2);have hp_:Kd.S (Kd.slice 69 k69) 93 wx2 w.heap.size (fun _=>True) (.slice (some ⟨gox1,0,none⟩) x3_1.length cox1) y108:=(by rw[hw,Ny108.out];exact HPx1.1);clear HPx1;replace HO_y1:=aM (hp_);replace HB:=aM ((by rw[hw];exact below_set (HB.out) GBx1.out:Below w.heap.size w wx2));clear HOx1;clear hg hw hp_))
   go_roundg k1
   case measure=>have:=HKy1.out;omega
   case rel=>exact⟨(y108),(wrap64 (x4_1+1)),rS,H',⟨by have:=HKy1.out;omega⟩,⟨(sX HO_y1.out)⟩,⟨(hX HB.out)⟩⟩
end Go.Proofs.YtmljebgideecjaaGreat.P2
