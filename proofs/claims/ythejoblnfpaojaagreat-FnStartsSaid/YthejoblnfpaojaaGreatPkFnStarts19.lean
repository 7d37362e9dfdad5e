/- A part of the proof of the law FnStarts: texts of this seat, merged (words, printed functions of the program, plain lemmas). Conditions: none of its own. -/
import Derived.Test.YthejoblnfpaojaaGreatPkFnStarts14
set_option linter.unusedSimpArgs false
set_option linter.unusedVariables false
set_option maxHeartbeats 8000000
set_option maxRecDepth 100000
namespace Go.Proofs.YthejoblnfpaojaaGreat.P
open Go.Proofs.YthejoblnfpaojaaGreatZ Go.RowKit Go.Proofs.YthejoblnfpaojaaGreatW.PrintWords Go.Proofs.YthejoblnfpaojaaGreatW.PrintLast Go.Proofs.YthejoblnfpaojaaGreatW.PrintMore
attribute [local go_sem] max2_int min2_int max_two min_two max_three min_three max_four min_four   -- for this text's walks alone
def Xu.l0:Nat→Int→List Int→Int→Option (Bool)
 | 0,_,_,_=>none
 | k+1,x3,x102000,x102001=>if x3<(x102000.length:Int) then (if 0≤x3 then (if (rd x102000 x3)=0 then (Xu.l0 k (wrap64 (x3+1)) x102000 x102001) else ((XE.f (rd x102000 x3)).bind fun t105=>(if t105=true then ((XX.f k x102000 x102001 (rd x102000 x3)).bind fun t107=>(if t107=x3 then (Xu.l0 k (wrap64 (x3+1)) x102000 x102001) else (some false))) else (some false)))) else (none)) else (if (x102000.length:Int)=4 then ((Xb.f x102001 0 5).bind fun t102=>(some t102)) else (some false))
def Xu.f (k:Nat) (l0_0:List Int) (a0_1:Int):Option (Bool):=Xu.l0 k 0 l0_0 a0_1
def Xu.T4:Bool × List (List Nat × List Nat):=(true,[([],[]),([0],[0]),([],[]),([1,2],[1,2]),([3],[3]),([4],[4]),([5],[5]),([6],[6]),([7,6],[6,7]),([6],[6]),([8,9,6],[6,8,9]),([10,6],[6,10]),([11,6,6],[6,11]),([12,6],[6,12]),([13,12,6],[6,13]),([14],[14]),([14],[14]),([16,14],[14,16]),([14],[14]),([17,18,14],[14,17,18]),([19,14],[14,19]),([15,20,14,14],[14,15,20]),([14],[14]),([21,22,14],[14,21,22]),([14,23,6],[6,14,23]),([6,24],[6,24])])
def Xu.B4:List Nat:=[0,1,0,7,15,31,63,127,255,127,1023,2047,4095,8191,16383,32767,32767,98303,32767,491519,1015807,2097151,32767,8388607,16777215,33554431]
theorem Xu.tab4:rtab .any (opsOf Tryz.f125 4)=Xu.T4:=by kernel_rfl
theorem Xu.bits4:waitsOk Xu.T4.2 Xu.B4=true:=by kernel_rfl
theorem Xu.calls (k:Nat) (A0_0:Option Addr) (c0_0:Nat) (l0_0:List Int) (a0_1:Int) (r:Bool) (w:World) (h0_0:Rw (Kd.int .i64) w A0_0 c0_0 l0_0) (H:Xu.f k l0_0 a0_1=some r) :
  Calls Tryz.prog 125 #[.agg #[.slice A0_0 l0_0.length c0_0,.int .i64 a0_1]] w fun e w'=>e = .returned (.bool r)∧Below w.heap.size w w':=by
 have hu26:=Tryz.underlying26
 obtain⟨HR0_0,HC0_0⟩:=h0_0
 have HB:=aM (Below.refl w.heap.size w)
 unfold Xu.f at H
 have H':=aM H
 clear H
 go_enter Tryz.func125,Tryz.ntmps125
 go_wp2_with (refine boxE 1 #[.slice A0_0 l0_0.length c0_0,.int .i64 a0_1] 26 ?_;intro gbz1 hg wz1 hbox hb;have BKz1:=aM (hbox);have GWz1:=aG hg HB;replace HB:=aS HB hb;clear hb hbox hg)
 go_loopg [3] k (fun kq v3 w'=>∃ (x3_1:Int),v3 = .int .i64 x3_1∧Aside0 (Xu.l0 kq x3_1 l0_0 a0_1=some r)∧Aside0 (kq≤k)∧Aside0 (w'.heap[gbz1]? = some (.cells #[(.slice A0_0 l0_0.length c0_0),.int .i64 a0_1] 26 (0,0)))∧Aside0 (Below w.heap.size w w'))
 case atStart=>exact⟨(0),rS,H',⟨Nat.le_refl _⟩,⟨(bX BKz1.out)⟩,⟨(hX HB.out)⟩⟩
 case round =>
  clear H'
  obtain⟨x3_1,rfl,HA,HKy1,BKz1,HB⟩:=hrel
  cases gk with
  | zero=>exact absurd HA.out (by simp[Xu.l0])
  | succ k1 =>
   have H:=HA.out
   clear HA
   simp only[Xu.l0] at H
   revert H;refine iN ?_ ?_<;>intro c3b0 H
   ·revert H;refine eN ?_ ?_<;>intro c20b0 c20b1 H
    ·obtain rfl:=sI H
     have hczx1:=cZ2 BKz1.out
     exact fS
    replace H:=bE H;obtain⟨t102,A21,H⟩:=H
    obtain rfl:=sI H
    have hczx1:=cZ2 BKz1.out
    go_wp2_with (go_at_call 95;(with_reducible refine(Xb.calls _ _ _ _ _ A21.out).mono ?_);rintro e w' ⟨rfl,⟨nd,rfl⟩⟩)
    go_ret
    exact⟨rE,(hX HB.out)⟩
   replace H:=ifQ H;obtain⟨c4b0,H⟩:=H
   revert H;refine eP ?_ ?_<;>intro c5b0 c5b1 H
   ·have H':=aM H
    clear H
    have hczx1:=cZ2 BKz1.out
    try go_wp2
    obtain⟨adx1,ex1,px1,qx1,hxx1⟩:=at_ic HR0_0 HB x3_1
    cases ex1
    have hcb0_:=cV2 BKz1.out
    refine sR0 26 Xu.tab4 Xu.bits4 (fun HT_ HW_ hHeld => ?_)
    refine zA 0 ?_
    refine zA 2 ?_
    refine tA 1 ?_
    refine zA 3 ?_
    refine tA 4 ?_
    refine zA 5 ?_
    refine zA 6 ?_
    refine uA 7 ?_
    refine uA 8 ?_
    refine uA 9 ?_
    refine uA 10 ?_
    refine uA 11 ?_
    refine uA 12 ?_
    refine uA 13 ?_
    refine uA 14 ?_
    refine uA 15 ?_
    refine uA 16 ?_
    refine uA 17 ?_
    refine uA 18 ?_
    refine uA 19 ?_
    refine uA 20 ?_
    refine uA 21 ?_
    refine uA 22 ?_
    refine uA 23 ?_
    refine uA 24 ?_
    refine zA 25 ?_
    refine dA ?_
    try go_wp2
    go_roundg k1
    case measure=>have:=HKy1.out;omega
    case rel=>exact⟨(wrap64 (x3_1+1)),rS,H',⟨by have:=HKy1.out;omega⟩,⟨(bX BKz1.out)⟩,⟨(hX HB.out)⟩⟩
   replace H:=bE H;obtain⟨t105,A8,H⟩:=H
   cases t105
   case false =>
    rw[if_neg nft] at H
    obtain rfl:=sI H
    have hczx1:=cZ2 BKz1.out
    try go_wp2
    obtain⟨adx1,ex1,px1,qx1,hxx1⟩:=at_ic HR0_0 HB x3_1
    cases ex1
    obtain⟨adx2,ex2,px2,qx2,hxx2⟩:=at_ic HR0_0 HB x3_1
    obtain rfl:adx1=adx2:=(by injection ex2)
    have hcb0_:=cV2 BKz1.out
    refine sR0 26 Xu.tab4 Xu.bits4 (fun HT_ HW_ hHeld => ?_)
    refine zA 0 ?_
    refine zA 2 ?_
    refine tA 1 ?_
    refine zA 3 ?_
    refine tA 4 ?_
    refine zA 5 ?_
    refine zA 6 ?_
    refine zA 7 ?_
    refine zA 9 ?_
    refine tA 8 ?_
    refine zA 10 ?_
    refine tA 11 ?_
    refine eD 12 Tryz.func182 (XE.calls _ _ _ A8.out) (fun nd hHeld => ?_)
    refine zA 13 ?_
    refine zA 14 ?_
    refine uA 15 ?_
    refine uA 16 ?_
    refine uA 17 ?_
    refine uA 18 ?_
    refine uA 19 ?_
    refine uA 20 ?_
    refine uA 21 ?_
    refine uA 22 ?_
    refine uA 23 ?_
    refine zA 24 ?_
    refine zA 25 ?_
    refine dA ?_
    try go_wp2
    go_ret
    exact⟨rE,(hX HB.out)⟩
   rw[if_pos rfl] at H
   replace H:=bE H;obtain⟨t107,A10,H⟩:=H
   revert H;refine eN ?_ ?_<;>intro c11b0 c11b1 H
   ·obtain rfl:=sI H
    have hczx1:=cZ2 BKz1.out
    try go_wp2
    obtain⟨adx1,ex1,px1,qx1,hxx1⟩:=at_ic HR0_0 HB x3_1
    cases ex1
    obtain⟨adx2,ex2,px2,qx2,hxx2⟩:=at_ic HR0_0 HB x3_1
    obtain rfl:adx1=adx2:=(by injection ex2)
    obtain⟨adx3,ex3,px3,qx3,hxx3⟩:=at_ic HR0_0 HB x3_1
    obtain rfl:adx1=adx3:=(by injection ex3)
    have hcb0_:=cV2 BKz1.out
    refine sR0 26 Xu.tab4 Xu.bits4 (fun HT_ HW_ hHeld => ?_)
    refine zA 0 ?_
    refine zA 2 ?_
    refine tA 1 ?_
    refine zA 3 ?_
    refine tA 4 ?_
    refine zA 5 ?_
    refine zA 6 ?_
    refine zA 7 ?_
    refine zA 9 ?_
    refine tA 8 ?_
    refine zA 10 ?_
    refine tA 11 ?_
    refine eD 12 Tryz.func182 (XE.calls _ _ _ A8.out) (fun nd hHeld => ?_)
    refine zA 13 ?_
    refine zA 14 ?_
    refine zA 16 ?_
    refine zA 18 ?_
    refine zA 22 ?_
    refine tA 15 ?_
    refine tA 17 ?_
    refine zA 19 ?_
    refine tA 20 ?_
    refine eB 21 Tryz.func183 (XX.calls _ _ _ _ _ _ _ _ (rW HR0_0 HB HC0_0) A10.out) (fun wx2 hb hHeld => ?_)
    replace BKz1:=aB BKz1 hb
    replace HB:=aS HB hb
    (try clear hb)
    refine zA 23 ?_
    refine zA 24 ?_
    refine zA 25 ?_
    refine dA ?_
    try go_wp2
    go_ret
    exact⟨rE,(hX HB.out)⟩
   have H':=aM H
   clear H
   have hczx1:=cZ2 BKz1.out
   try go_wp2
   obtain⟨adx1,ex1,px1,qx1,hxx1⟩:=at_ic HR0_0 HB x3_1
   cases ex1
   obtain⟨adx2,ex2,px2,qx2,hxx2⟩:=at_ic HR0_0 HB x3_1
   obtain rfl:adx1=adx2:=(by injection ex2)
   obtain⟨adx3,ex3,px3,qx3,hxx3⟩:=at_ic HR0_0 HB x3_1
   obtain rfl:adx1=adx3:=(by injection ex3)
   have hcb0_:=cV2 BKz1.out
   refine sR0 26 Xu.tab4 Xu.bits4 (fun HT_ HW_ hHeld => ?_)
   refine zA 0 ?_
   refine zA 2 ?_
   refine tA 1 ?_
   refine zA 3 ?_
   refine tA 4 ?_
   refine zA 5 ?_
   refine zA 6 ?_
   refine zA 7 ?_
   refine zA 9 ?_
   refine tA 8 ?_
   refine zA 10 ?_
   refine tA 11 ?_
   refine eD 12 Tryz.func182 (XE.calls _ _ _ A8.out) (fun nd hHeld => ?_)
   refine zA 13 ?_
   refine zA 14 ?_
   refine zA 16 ?_
   refine zA 18 ?_
   refine zA 22 ?_
   refine tA 15 ?_
   refine tA 17 ?_
   refine zA 19 ?_
   refine tA 20 ?_
   refine eB 21 Tryz.func183 (XX.calls _ _ _ _ _ _ _ _ (rW HR0_0 HB HC0_0) A10.out) (fun wx2 hb hHeld => ?_)
   replace BKz1:=aB BKz1 hb
   replace HB:=aS HB hb
   (try clear hb)
   refine zA 23 ?_
   refine zA 24 ?_
   refine zA 25 ?_
   refine dA ?_
   try go_wp2
   go_roundg k1
   case measure=>have:=HKy1.out;omega
   case rel=>exact⟨(wrap64 (x3_1+1)),rS,H',⟨by have:=HKy1.out;omega⟩,⟨(bX BKz1.out)⟩,⟨(hX HB.out)⟩⟩
def XaO.f (a0:Int):Option (Int):=(Xax.f a0).bind fun t101=>(if t101=true then (some a0) else (some (-1)))
theorem XaO.calls (a0:Int) (r:Int) (w:World) (H:XaO.f a0=some r) :
  Calls Tryz.prog 160 #[.int .i64 a0] w fun e w'=>e = .returned (.int .i64 r)∧Drawn0 w w':=by
 unfold XaO.f at H
 replace H:=bE H;obtain⟨t101,A2,H⟩:=H
 go_enter Tryz.func160,Tryz.ntmps160
 cases t101
 case true =>
  rw[if_pos rfl] at H
  obtain rfl:=sI H
  go_wp2_with (refine gD 203 4 Tryz.func203 (Xax.calls _ _ _ A2.out) ?_;intro nd)
  go_ret
  exact⟨by first | rfl | (simp;done) | (simp[*];done),dX⟩
 rw[if_neg nft] at H
 obtain rfl:=sI H
 go_wp2_with (refine gD 203 4 Tryz.func203 (Xax.calls _ _ _ A2.out) ?_;intro nd)
 go_ret
 exact⟨by first | rfl | (simp;done) | (simp[*];done),dX⟩
def XaI.f (a0:Int):Option (Int):=(XE.f a0).bind fun t101=>(if t101=true then (some (wrap64 (3+a0))) else (some (-1)))
theorem XaI.calls (a0:Int) (r:Int) (w:World) (H:XaI.f a0=some r) :
  Calls Tryz.prog 161 #[.int .i64 a0] w fun e w'=>e = .returned (.int .i64 r)∧Drawn0 w w':=by
 unfold XaI.f at H
 replace H:=bE H;obtain⟨t101,A2,H⟩:=H
 go_enter Tryz.func161,Tryz.ntmps161
 cases t101
 case true =>
  rw[if_pos rfl] at H
  obtain rfl:=sI H
  go_wp2_with (refine gD 182 4 Tryz.func182 (XE.calls _ _ _ A2.out) ?_;intro nd)
  go_ret
  exact⟨by first | rfl | (simp;done) | (simp[*];done),dX⟩
 rw[if_neg nft] at H
 obtain rfl:=sI H
 go_wp2_with (refine gD 182 4 Tryz.func182 (XE.calls _ _ _ A2.out) ?_;intro nd)
 go_ret
 exact⟨by first | rfl | (simp;done) | (simp[*];done),dX⟩
def XaP.f (a0:Int):Option (Int):=(XE.f a0).bind fun t101=>(if t101=true then ((Xar.f).bind fun t102=>(some (wrap64 (t102+a0)))) else (some (-1)))
theorem XaP.calls (a0:Int) (r:Int) (w:World) (H:XaP.f a0=some r) :
  Calls Tryz.prog 162 #[.int .i64 a0] w fun e w'=>e = .returned (.int .i64 r)∧Drawn0 w w':=by
 unfold XaP.f at H
 replace H:=bE H;obtain⟨t101,A2,H⟩:=H
 go_enter Tryz.func162,Tryz.ntmps162
 cases t101
 case false =>
  rw[if_neg nft] at H
  obtain rfl:=sI H
  go_wp2_with (refine gD 182 4 Tryz.func182 (XE.calls _ _ _ A2.out) ?_;intro nd)
  go_ret
  exact⟨by first | rfl | (simp;done) | (simp[*];done),dX⟩
 rw[if_pos rfl] at H
 replace H:=bE H;obtain⟨t102,A4,H⟩:=H
 obtain rfl:=sI H
 go_wp2_with (first | (refine gD 182 4 Tryz.func182 (XE.calls _ _ _ A2.out) ?_;intro nd) | (refine gD 165 6 Tryz.func165 (Xar.calls _ _ A4.out) ?_;intro nd))
 go_ret
 exact⟨by first | rfl | (simp;done) | (simp[*];done),dX⟩
def XaJ.f (a0:Int):Option (Int):=(XE.f a0).bind fun t101=>(if t101=true then (some (Int.tmod a0 3)) else (some (-1)))
theorem XaJ.calls (a0:Int) (r:Int) (w:World) (H:XaJ.f a0=some r) :
  Calls Tryz.prog 204 #[.int .i64 a0] w fun e w'=>e = .returned (.int .i64 r)∧Drawn0 w w':=by
 unfold XaJ.f at H
 replace H:=bE H;obtain⟨t101,A2,H⟩:=H
 go_enter Tryz.func204,Tryz.ntmps204
 cases t101
 case true =>
  rw[if_pos rfl] at H
  obtain rfl:=sI H
  go_wp2_with (refine gD 182 4 Tryz.func182 (XE.calls _ _ _ A2.out) ?_;intro nd)
  go_ret
  exact⟨by first | rfl | (simp;done) | (simp[*];done),dX⟩
 rw[if_neg nft] at H
 obtain rfl:=sI H
 go_wp2_with (refine gD 182 4 Tryz.func182 (XE.calls _ _ _ A2.out) ?_;intro nd)
 go_ret
 exact⟨by first | rfl | (simp;done) | (simp[*];done),dX⟩
mutual
def XS.j0:Nat→Bool→Int→Int→Int→Option (Bool)
 | 0,_,_,_,_=>none
 | k+1,x3,x102000,x102001,x102002=>if x102000=6 then ((Xb.f x102001 0 2).bind fun t105=>(XS.j1 k t105 x102000 x102001 x102002)) else (XS.j1 k x3 x102000 x102001 x102002)
def XS.j1:Nat→Bool→Int→Int→Int→Option (Bool)
 | 0,_,_,_,_=>none
 | k+1,x3,x102000,x102001,x102002=>(Xap.f x102000).bind fun t106=>(if t106=true then (if x3=true then ((XE.f x102002).bind fun t107=>(some t107)) else (some false)) else (if x3=true then (some (x102002 == 0)) else (some false)))
end
def XS.f (k:Nat) (a0_0:Int) (a0_1:Int) (a0_2:Int):Option (Bool):=(Xb.f a0_0 1 10).bind fun t102=>(if t102=true then ((Xas.f a0_0).bind fun t103=>(if t103=true then ((Xax.f a0_1).bind fun t104=>(XS.j0 k t104 a0_0 a0_1 a0_2)) else (XS.j0 k (a0_1 == 0) a0_0 a0_1 a0_2))) else (some false))
theorem XS.calls (k:Nat) (a0_0:Int) (a0_1:Int) (a0_2:Int) (r:Bool) (w:World) (H:XS.f k a0_0 a0_1 a0_2=some r) :
  Calls Tryz.prog 173 #[.agg #[.int .i64 a0_0,.int .i64 a0_1,.int .i64 a0_2]] w fun e w'=>e = .returned (.bool r)∧Below w.heap.size w w':=by
 have hu78:=Tryz.underlying78
 have HB:=aM (Below.refl w.heap.size w)
 unfold XS.f at H
 replace H:=bE H;obtain⟨t102,A2,H⟩:=H
 go_enter Tryz.func173,Tryz.ntmps173
 cases t102
 case false =>
  rw[if_neg nft] at H
  obtain rfl:=sI H
  go_wp2_with (first | (refine boxE 1 #[.int .i64 a0_0,.int .i64 a0_1,.int .i64 a0_2] 78 ?_;intro gbz1 hg wz1 hbox hb;have BKz1:=aM (hbox);have GWz1:=aG hg HB;have GEz1:=aG hg HB;replace HB:=aS HB hb;clear hb hbox hg;have hczz1:=cZ3 BKz1.out) | (refine gD 95 6 Tryz.func95 (Xb.calls _ _ _ _ _ A2.out) ?_;intro nd))
  go_ret
  exact⟨rE,(hX HB.out)⟩
 rw[if_pos rfl] at H
 replace H:=bE H;obtain⟨t103,A4,H⟩:=H
 have HC5:=aM H
 clear H
 go_upto_if 13 with(first | ((with_reducible refine gate_dst (N:=1) rfl ?_);refine boxE 1 #[.int .i64 a0_0,.int .i64 a0_1,.int .i64 a0_2] 78 ?_;intro gbz1 hg wz1 hbox hb;have BKz1:=aM (hbox);have GWz1:=aG hg HB;have GEz1:=aG hg HB;replace HB:=aS HB hb;clear hb hbox hg;have hczz1:=cZ3 BKz1.out) | ((with_reducible refine gate_callee (f:=95) rfl ?_);refine gD 95 6 Tryz.func95 (Xb.calls _ _ _ _ _ A2.out) ?_;intro nd) | ((with_reducible refine gate_callee (f:=175) rfl ?_);refine gD 175 13 Tryz.func175 (Xas.calls _ _ _ A4.out) ?_;intro nd))
 (try simp only[Act.put,List.setIfInBounds_toArray,List.set_cons_zero,List.set_cons_succ])
 go_cut [3] (fun vz1 wc=>∃ (kq:Nat) (x3_4:Bool),vz1 = .bool x3_4∧Aside0 (XS.j0 kq x3_4 a0_0 a0_1 a0_2=some r)∧Aside0 (kq≤k)∧Aside0 (wc.heap[gbz1]? = some (.cells #[.int .i64 a0_0,.int .i64 a0_1,.int .i64 a0_2] 78 (0,0)))∧Aside0 (Below w.heap.size w wc))
 case first =>
  have H:=HC5.out
  clear HC5
  cases t103
  case false =>
   rw[if_neg nft] at H
   have H':=aM H
   clear H
   go_wp2
   go_meet
   case rel=>exact⟨_,((a0_1 == 0)),rS,H',⟨by first | omega | exact Nat.le_refl _⟩,⟨(bX BKz1.out)⟩,⟨(hX HB.out)⟩⟩
  rw[if_pos rfl] at H
  replace H:=bE H;obtain⟨t104,A9,H⟩:=H
  have H':=aM H
  clear H
  have hczy1:=cZ3 BKz1.out
  go_wp2_with (refine gD 203 16 Tryz.func203 (Xax.calls _ _ _ A9.out) ?_;intro nd)
  go_meet
  case rel=>exact⟨_,(t104),rS,H',⟨by first | omega | exact Nat.le_refl _⟩,⟨(bX BKz1.out)⟩,⟨(hX HB.out)⟩⟩
 case rest =>
  clear HC5
  try clear hczz1
  obtain⟨kq,x3_4,rfl,HA,HJy1,BKz1,HB⟩:=hcut
  cases kq with
  | zero=>exact absurd HA.out (by simp[XS.j0])
  | succ kj4 =>
   have H:=HA.out
   clear HA
   simp only[XS.j0] at H
   have HC11:=aM H
   clear H
   have hczx1:=cZ3 BKz1.out
   go_upto_if 19 with(fail)
   go_cut [3] (fun vz1 wc=>∃ (kq:Nat) (x3_10:Bool),vz1 = .bool x3_10∧Aside0 (XS.j1 kq x3_10 a0_0 a0_1 a0_2=some r)∧Aside0 (kq≤kj4)∧Aside0 (wc.heap[gbz1]? = some (.cells #[.int .i64 a0_0,.int .i64 a0_1,.int .i64 a0_2] 78 (0,0)))∧Aside0 (Below w.heap.size w wc))
   case first =>
    have H:=HC11.out
    clear HC11
    revert H;refine eN ?_ ?_<;>intro c13b0 c13b1 H
    ·(first | rw[c13b0] | (simp only[i64_w,i32_w];rw[c13b0]) | skip)
     have H':=aM H
     clear H
     go_wp2
     go_meet
     case rel=>exact⟨_,(x3_4),rS,H',⟨by have:=HJy1.out;first | omega | exact Nat.le_refl _⟩,⟨(bX BKz1.out)⟩,⟨(hX HB.out)⟩⟩
    (first | rw[c13b0] | (simp only[i64_w,i32_w];rw[c13b0]) | skip)
    replace H:=bE H;obtain⟨t105,A14,H⟩:=H
    have H':=aM H
    clear H
    have hczw1:=cZ3 BKz1.out
    go_wp2_with (refine gD 95 22 Tryz.func95 (Xb.calls _ _ _ _ _ A14.out) ?_;intro nd)
    go_meet
    case rel=>exact⟨_,(t105),rS,H',⟨by have:=HJy1.out;first | omega | exact Nat.le_refl _⟩,⟨(bX BKz1.out)⟩,⟨(hX HB.out)⟩⟩
   case rest =>
    clear HC11
    try clear hczx1
    try clear hczz1
    obtain⟨kq,x3_10,rfl,HA,HJw1,BKz1,HB⟩:=hcut
    cases kq with
    | zero=>exact absurd HA.out (by simp[XS.j1])
    | succ kj10 =>
     have H:=HA.out
     clear HA
     simp only[XS.j1] at H
     replace H:=bE H;obtain⟨t106,A16,H⟩:=H
     cases t106
     case false =>
      rw[if_neg nft] at H
      have hczv1:=cZ3 BKz1.out
      go_wp2_with (refine gD 176 25 Tryz.func176 (Xap.calls _ _ _ A16.out) ?_;intro nd;refine Stop.out ?_)
      refine⟨?_⟩
      cases x3_10
      case true =>
       rw[if_pos rfl] at H
       exact fR
      rw[if_neg nft] at H
      exact fR
     rw[if_pos rfl] at H
     have hczv1:=cZ3 BKz1.out
     go_wp2_with (refine gD 176 25 Tryz.func176 (Xap.calls _ _ _ A16.out) ?_;intro nd;refine Stop.out ?_)
     refine⟨?_⟩
     cases x3_10
     case false =>
      rw[if_neg nft] at H
      exact fR
     rw[if_pos rfl] at H
     replace H:=bE H;obtain⟨t107,A19,H⟩:=H
     obtain rfl:=sI H
     go_wp2_with (go_at_call 182;(with_reducible refine(XE.calls _ _ _ A19.out).mono ?_);rintro e w' ⟨rfl,⟨nd,rfl⟩⟩)
     go_ret
     exact⟨rE,(hX HB.out)⟩
end Go.Proofs.YthejoblnfpaojaaGreat.P
