/- A part of the proof of the law FnStarts: texts of this seat, merged (words, printed functions of the program, plain lemmas). Conditions: none of its own. -/
import Derived.Test.YthejoblnfpaojaaGreatPkFnStarts13
set_option linter.unusedSimpArgs false
set_option linter.unusedVariables false
set_option maxHeartbeats 8000000
set_option maxRecDepth 100000
namespace Go.Proofs.YthejoblnfpaojaaGreat.P
open Go.Proofs.YthejoblnfpaojaaGreatZ Go.RowKit Go.Proofs.YthejoblnfpaojaaGreatW.PrintWords Go.Proofs.YthejoblnfpaojaaGreatW.PrintLast Go.Proofs.YthejoblnfpaojaaGreatW.PrintMore
attribute [local go_sem] max2_int min2_int max_two min_two max_three min_three max_four min_four   -- for this text's walks alone
def Xt.l0:Nat→List (S63)→Int→Int→Int→Int→List (S63)→Int→List Int→Option (Bool)
 | 0,_,_,_,_,_,_,_,_=>none
 | k+1,x31,x32,x33,x102000,x102001,x102002,x102003,x102004=>if x33<x32 then (if 0≤x33 then (if x33<(x31.length:Int) then ((X6.f ((rd_T63 x31 x33).f0)).bind fun t106=>(if t106=true then ((XC.f ((rd_T63 x31 x33).f1)).bind fun t107=>(if t107=true then ((XC.f ((rd_T63 x31 x33).f2)).bind fun t108=>(if t108=true then (if x33 > 0 then (if 0≤(wrap64 (x33 - 1)) then (if (wrap64 (x33 - 1))<(x102002.length:Int) then (if ((rd_T63 x102002 (wrap64 (x33 - 1))).f0) ≥ ((rd_T63 x31 x33).f0) then (some false) else (Xt.l0 k x31 x32 (wrap64 (x33+1)) x102000 x102001 x102002 x102003 x102004)) else (none)) else (none)) else (Xt.l0 k x31 x32 (wrap64 (x33+1)) x102000 x102001 x102002 x102003 x102004)) else (some false))) else (some false))) else (some false))) else (none)) else (none)) else ((Xe.f x102000 1 1000000).bind fun t102=>(if t102=true then ((Xe.f x102001 1 3).bind fun t103=>(if t103=true then (some (decide ((x102002.length:Int)≤20))) else (some false))) else (some false)))
def Xt.f (k:Nat) (a0_0:Int) (a0_1:Int) (l0_2:List (S63)) (a0_3:Int) (l0_4:List Int):Option (Bool):=if a0_0=0 then (if a0_1=0 then (if (l0_2.length:Int)=0 then (if a0_3=0 then (some ((l0_4.length:Int) == 0)) else (some false)) else (some false)) else (some false)) else (Xt.l0 k l0_2 (l0_2.length:Int) 0 a0_0 a0_1 l0_2 a0_3 l0_4)
def Xt.T6:Bool × List (List Nat × List Nat):=(true,[([],[]),([0],[0]),([1],[1]),([2],[2]),([3,2],[3]),([4],[4]),([5,4],[4,5]),([6,4,4],[4,6]),([7,4],[4,7]),([4,8],[4,8]),([9,7],[9]),([10],[10]),([11,10],[10,11]),([12,10,10],[10,12]),([13,10],[10,13]),([10,14],[10,14]),([15,13],[15]),([16],[16]),([17,16],[16,17]),([18,16,16],[16,18]),([19],[19]),([20,19],[19,20]),([19],[19]),([22,19],[19,22]),([21,23,19],[19,21,23]),([24,19],[19,24]),([25,19],[19,25]),([19],[19]),([27,19],[19,27]),([26,28,19],[19,26,28]),([19,29,16],[16,19,29]),([16,30],[16,30])])
def Xt.B6:List Nat:=[0,1,3,7,15,31,63,127,255,511,1023,2047,4095,8191,16383,32767,65535,131071,262143,524287,1048575,2097151,1048575,5242879,16777215,33554431,67108863,1048575,135266303,536870911,1073741823,2147483647]
theorem Xt.tab6:rtab .any (opsOf Tryz.f33 6)=Xt.T6:=by kernel_rfl
theorem Xt.bits6:waitsOk Xt.T6.2 Xt.B6=true:=by kernel_rfl
theorem Xt.calls (k:Nat) (a0_0:Int) (a0_1:Int) (A0_2:Option Addr) (c0_2:Nat) (l0_2:List (S63)) (a0_3:Int) (A0_4:Option Addr) (c0_4:Nat) (l0_4:List Int) (r:Bool) (w:World) (h0_2:Rw k63 w A0_2 c0_2 l0_2) (h0_4:Rw (Kd.int .i64) w A0_4 c0_4 l0_4) (H:Xt.f k a0_0 a0_1 l0_2 a0_3 l0_4=some r) :
  Calls Tryz.prog 33 #[.agg #[.int .i64 a0_0,.int .i64 a0_1,.slice A0_2 l0_2.length c0_2,.int .i64 a0_3,.slice A0_4 l0_4.length c0_4]] w fun e w'=>e = .returned (.bool r)∧Below w.heap.size w w':=by
 have hu58:=Tryz.underlying58
 have hu63:=Tryz.underlying63
 obtain⟨HR0_2,HC0_2⟩:=h0_2
 obtain⟨HR0_4,HC0_4⟩:=h0_4
 have HB:=aM (Below.refl w.heap.size w)
 unfold Xt.f at H
 go_enter Tryz.func33,Tryz.ntmps33
 go_wp2_with ((with_reducible refine gate_dst (N:=1) rfl ?_);(try (refine gate_guard (by rfl) ?_;dsimp only));refine boxF 1 #[.int .i64 a0_0,.int .i64 a0_1,.slice A0_2 l0_2.length c0_2,.int .i64 a0_3,.slice A0_4 l0_4.length c0_4] 58 ?_;intro gbz1 hg wz1 hbox hb;have BKz1:=aM (hbox);have GWz1:=aG hg HB;replace HB:=aS HB hb;clear hb hbox hg;have hczz1:=cZ5 BKz1.out;refine Stop.out ?_)
 refine⟨?_⟩
 revert H;refine eP ?_ ?_<;>intro c2b0 c2b1 H
 ·revert H;refine eN ?_ ?_<;>intro c3b0 c3b1 H
  ·obtain rfl:=sI H
   exact fS
  by_cases c4:(l0_2.length:Int)=0
  case neg =>
   rw[if_neg c4] at H
   obtain⟨c4b0,c4b1⟩:=eqF c4
   have c4b2:¬ (l0_2=[]):=fun h_=>c4 (by rw[h_];rfl)
   exact fR
  rw[if_pos c4] at H
  obtain⟨c4b0,c4b1⟩:=eqT c4
  clear c4
  revert H;refine eN ?_ ?_<;>intro c5b0 c5b1 H
  ·obtain rfl:=sI H
   exact fS
  exact fR
 have H':=aM H
 clear H
 go_wp2
 go_loopg [33] k (fun kq v33 w'=>∃ (x33_1:Int),v33 = .int .i64 x33_1∧Aside0 (Xt.l0 kq l0_2 (l0_2.length:Int) x33_1 a0_0 a0_1 l0_2 a0_3 l0_4=some r)∧Aside0 (kq≤k)∧Aside0 (w'.heap[gbz1]? = some (.cells #[.int .i64 a0_0,.int .i64 a0_1,(.slice A0_2 l0_2.length c0_2),.int .i64 a0_3,(.slice A0_4 l0_4.length c0_4)] 58 (0,0)))∧Aside0 (Below w.heap.size w w'))
 case atStart=>exact⟨(0),rS,H',⟨Nat.le_refl _⟩,⟨(bX BKz1.out)⟩,⟨(hX HB.out)⟩⟩
 case round =>
  clear H'
  try clear c2b0
  try clear c2b1
  try clear hczz1
  obtain⟨x33_1,rfl,HA,HKy1,BKz1,HB⟩:=hrel
  cases gk with
  | zero=>exact absurd HA.out (by simp[Xt.l0])
  | succ k1 =>
   have H:=HA.out
   clear HA
   simp only[Xt.l0] at H
   revert H;refine iN ?_ ?_<;>intro c16b0 H
   ·replace H:=bE H;obtain⟨t102,A60,H⟩:=H
    cases t102
    case false =>
     rw[if_neg nft] at H
     obtain rfl:=sI H
     have hczx1:=cZ5 BKz1.out
     go_wp2_with (refine gD 88 73 Tryz.func88 (Xe.calls _ _ _ _ _ A60.out) ?_;intro nd)
     go_ret
     exact⟨rE,(hX HB.out)⟩
    rw[if_pos rfl] at H
    replace H:=bE H;obtain⟨t103,A62,H⟩:=H
    have hczx1:=cZ5 BKz1.out
    go_wp2_with (refine gD 88 73 Tryz.func88 (Xe.calls _ _ _ _ _ A60.out) ?_;intro nd;refine Stop.out ?_)
    refine⟨?_⟩
    cases t103
    case true =>
     rw[if_pos rfl] at H
     obtain rfl:=sI H
     go_wp2_with (go_at_call 88;(with_reducible refine(Xe.calls _ _ _ _ _ A62.out).mono ?_);rintro e w' ⟨rfl,⟨nd,rfl⟩⟩)
     go_ret
     exact⟨rE,(hX HB.out)⟩
    rw[if_neg nft] at H
    obtain rfl:=sI H
    go_wp2_with (go_at_call 88;(with_reducible refine(Xe.calls _ _ _ _ _ A62.out).mono ?_);rintro e w' ⟨rfl,⟨nd,rfl⟩⟩)
    go_ret
    exact⟨rE,(hX HB.out)⟩
   replace H:=ifQ H;obtain⟨c17b0,H⟩:=H
   replace H:=ifQ H;obtain⟨c18b0,H⟩:=H
   replace H:=bE H;obtain⟨t106,A19,H⟩:=H
   obtain⟨adx1,ex1,px1,qx1,hxx1⟩:=at_T63c HR0_2 HB x33_1
   cases ex1
   go_wp2_with ((with_reducible refine gate_dst (N:=4) rfl ?_);(try (refine gate_guard (by rfl) ?_;dsimp only));refine boxF 4 #[.int .i64 0,.int .i64 0,.int .i64 0] 63 ?_;intro gbx1 hg wx1 hbox hb;have BKx1:=aM (hbox);have GWx1:=aG hg HB;have NBx1:=aL hg BKz1;have NBx2:=aR hg BKz1;replace BKz1:=aB BKz1 hb;replace HB:=aS HB hb;clear hb hbox hg;have hnbx1:=nB NBx2 NBx1;have hczx1:=cZ3 BKx1.out;refine Stop.out ?_)
   refine⟨?_⟩
   cases t106
   case false =>
    rw[if_neg nft] at H
    obtain rfl:=sI H
    try go_wp2
    have nx1:Aside0 ((((wx1.setCell ⟨gbx1,0,none⟩ (.int .i64 ((rd_T63 l0_2 x33_1).f0))).setCell ⟨gbx1,1,none⟩ (.int .i64 ((rd_T63 l0_2 x33_1).f1))).setCell ⟨gbx1,2,none⟩ (.int .i64 ((rd_T63 l0_2 x33_1).f2))).heap[gbz1]? = some (.cells #[.int .i64 a0_0,.int .i64 a0_1,.slice (some adx1) l0_2.length c0_2,.int .i64 a0_3,.slice A0_4 l0_4.length c0_4] 58 (0,0))):=⟨(bF BKz1.out)⟩
    have nx2:Aside0 ((((wx1.setCell ⟨gbx1,0,none⟩ (.int .i64 ((rd_T63 l0_2 x33_1).f0))).setCell ⟨gbx1,1,none⟩ (.int .i64 ((rd_T63 l0_2 x33_1).f1))).setCell ⟨gbx1,2,none⟩ (.int .i64 ((rd_T63 l0_2 x33_1).f2))).heap[gbx1]? = some (.cells #[.int .i64 ((rd_T63 l0_2 x33_1).f0),.int .i64 ((rd_T63 l0_2 x33_1).f1),.int .i64 ((rd_T63 l0_2 x33_1).f2)] 63 (0,0))):=⟨(bP BKx1.out)⟩
    have nx3:Aside0 (Below w.heap.size w (((wx1.setCell ⟨gbx1,0,none⟩ (.int .i64 ((rd_T63 l0_2 x33_1).f0))).setCell ⟨gbx1,1,none⟩ (.int .i64 ((rd_T63 l0_2 x33_1).f1))).setCell ⟨gbx1,2,none⟩ (.int .i64 ((rd_T63 l0_2 x33_1).f2)))):=⟨(hX HB.out)⟩
    (try clear BKz1)
    (try clear BKx1)
    (try clear HB)
    generalize (((wx1.setCell ⟨gbx1,0,none⟩ (.int .i64 ((rd_T63 l0_2 x33_1).f0))).setCell ⟨gbx1,1,none⟩ (.int .i64 ((rd_T63 l0_2 x33_1).f1))).setCell ⟨gbx1,2,none⟩ (.int .i64 ((rd_T63 l0_2 x33_1).f2)))=wx2 at nx1 nx2 nx3 ⊢
    have BKz1:=nx1
    have BKx1:=nx2
    have HB:=nx3
    clear nx1 nx2 nx3
    have hcb0_:=cV3 BKx1.out
    refine sR0 32 Xt.tab6 Xt.bits6 (fun HT_ HW_ hHeld => ?_)
    refine zA 0 ?_
    refine tA 1 ?_
    refine eD 2 Tryz.func103 (X6.calls _ _ _ A19.out) (fun nd hHeld => ?_)
    refine zA 3 ?_
    refine zA 4 ?_
    refine uA 5 ?_
    refine uA 6 ?_
    refine uA 7 ?_
    refine uA 8 ?_
    refine zA 9 ?_
    refine zA 10 ?_
    refine uA 11 ?_
    refine uA 12 ?_
    refine uA 13 ?_
    refine uA 14 ?_
    refine zA 15 ?_
    refine zA 16 ?_
    refine uA 17 ?_
    refine uA 18 ?_
    refine uA 19 ?_
    refine uA 20 ?_
    refine uA 21 ?_
    refine uA 22 ?_
    refine uA 23 ?_
    refine uA 24 ?_
    refine uA 25 ?_
    refine uA 26 ?_
    refine uA 27 ?_
    refine uA 28 ?_
    refine uA 29 ?_
    refine uA 30 ?_
    refine zA 31 ?_
    refine dA ?_
    try go_wp2
    go_ret
    exact⟨rE,(hX HB.out)⟩
   rw[if_pos rfl] at H
   replace H:=bE H;obtain⟨t107,A21,H⟩:=H
   cases t107
   case false =>
    rw[if_neg nft] at H
    obtain rfl:=sI H
    try go_wp2
    have nx1:Aside0 ((((wx1.setCell ⟨gbx1,0,none⟩ (.int .i64 ((rd_T63 l0_2 x33_1).f0))).setCell ⟨gbx1,1,none⟩ (.int .i64 ((rd_T63 l0_2 x33_1).f1))).setCell ⟨gbx1,2,none⟩ (.int .i64 ((rd_T63 l0_2 x33_1).f2))).heap[gbz1]? = some (.cells #[.int .i64 a0_0,.int .i64 a0_1,.slice (some adx1) l0_2.length c0_2,.int .i64 a0_3,.slice A0_4 l0_4.length c0_4] 58 (0,0))):=⟨(bF BKz1.out)⟩
    have nx2:Aside0 ((((wx1.setCell ⟨gbx1,0,none⟩ (.int .i64 ((rd_T63 l0_2 x33_1).f0))).setCell ⟨gbx1,1,none⟩ (.int .i64 ((rd_T63 l0_2 x33_1).f1))).setCell ⟨gbx1,2,none⟩ (.int .i64 ((rd_T63 l0_2 x33_1).f2))).heap[gbx1]? = some (.cells #[.int .i64 ((rd_T63 l0_2 x33_1).f0),.int .i64 ((rd_T63 l0_2 x33_1).f1),.int .i64 ((rd_T63 l0_2 x33_1).f2)] 63 (0,0))):=⟨(bP BKx1.out)⟩
    have nx3:Aside0 (Below w.heap.size w (((wx1.setCell ⟨gbx1,0,none⟩ (.int .i64 ((rd_T63 l0_2 x33_1).f0))).setCell ⟨gbx1,1,none⟩ (.int .i64 ((rd_T63 l0_2 x33_1).f1))).setCell ⟨gbx1,2,none⟩ (.int .i64 ((rd_T63 l0_2 x33_1).f2)))):=⟨(hX HB.out)⟩
    (try clear BKz1)
    (try clear BKx1)
    (try clear HB)
    generalize (((wx1.setCell ⟨gbx1,0,none⟩ (.int .i64 ((rd_T63 l0_2 x33_1).f0))).setCell ⟨gbx1,1,none⟩ (.int .i64 ((rd_T63 l0_2 x33_1).f1))).setCell ⟨gbx1,2,none⟩ (.int .i64 ((rd_T63 l0_2 x33_1).f2)))=wx2 at nx1 nx2 nx3 ⊢
    have BKz1:=nx1
    have BKx1:=nx2
    have HB:=nx3
    clear nx1 nx2 nx3
    have hcb0_:=cV3 BKx1.out
    refine sR0 32 Xt.tab6 Xt.bits6 (fun HT_ HW_ hHeld => ?_)
    refine zA 0 ?_
    refine tA 1 ?_
    refine eD 2 Tryz.func103 (X6.calls _ _ _ A19.out) (fun nd hHeld => ?_)
    refine zA 3 ?_
    refine zA 4 ?_
    refine zA 5 ?_
    refine tA 6 ?_
    refine eD 7 Tryz.func102 (XC.calls _ _ _ A21.out) (fun nd hHeld => ?_)
    refine zA 8 ?_
    refine zA 9 ?_
    refine zA 10 ?_
    refine uA 11 ?_
    refine uA 12 ?_
    refine uA 13 ?_
    refine uA 14 ?_
    refine zA 15 ?_
    refine zA 16 ?_
    refine uA 17 ?_
    refine uA 18 ?_
    refine uA 19 ?_
    refine uA 20 ?_
    refine uA 21 ?_
    refine uA 22 ?_
    refine uA 23 ?_
    refine uA 24 ?_
    refine uA 25 ?_
    refine uA 26 ?_
    refine uA 27 ?_
    refine uA 28 ?_
    refine uA 29 ?_
    refine uA 30 ?_
    refine zA 31 ?_
    refine dA ?_
    try go_wp2
    go_ret
    exact⟨rE,(hX HB.out)⟩
   rw[if_pos rfl] at H
   replace H:=bE H;obtain⟨t108,A23,H⟩:=H
   cases t108
   case false =>
    rw[if_neg nft] at H
    obtain rfl:=sI H
    try go_wp2
    have nx1:Aside0 ((((wx1.setCell ⟨gbx1,0,none⟩ (.int .i64 ((rd_T63 l0_2 x33_1).f0))).setCell ⟨gbx1,1,none⟩ (.int .i64 ((rd_T63 l0_2 x33_1).f1))).setCell ⟨gbx1,2,none⟩ (.int .i64 ((rd_T63 l0_2 x33_1).f2))).heap[gbz1]? = some (.cells #[.int .i64 a0_0,.int .i64 a0_1,.slice (some adx1) l0_2.length c0_2,.int .i64 a0_3,.slice A0_4 l0_4.length c0_4] 58 (0,0))):=⟨(bF BKz1.out)⟩
    have nx2:Aside0 ((((wx1.setCell ⟨gbx1,0,none⟩ (.int .i64 ((rd_T63 l0_2 x33_1).f0))).setCell ⟨gbx1,1,none⟩ (.int .i64 ((rd_T63 l0_2 x33_1).f1))).setCell ⟨gbx1,2,none⟩ (.int .i64 ((rd_T63 l0_2 x33_1).f2))).heap[gbx1]? = some (.cells #[.int .i64 ((rd_T63 l0_2 x33_1).f0),.int .i64 ((rd_T63 l0_2 x33_1).f1),.int .i64 ((rd_T63 l0_2 x33_1).f2)] 63 (0,0))):=⟨(bP BKx1.out)⟩
    have nx3:Aside0 (Below w.heap.size w (((wx1.setCell ⟨gbx1,0,none⟩ (.int .i64 ((rd_T63 l0_2 x33_1).f0))).setCell ⟨gbx1,1,none⟩ (.int .i64 ((rd_T63 l0_2 x33_1).f1))).setCell ⟨gbx1,2,none⟩ (.int .i64 ((rd_T63 l0_2 x33_1).f2)))):=⟨(hX HB.out)⟩
    (try clear BKz1)
    (try clear BKx1)
    (try clear HB)
    generalize (((wx1.setCell ⟨gbx1,0,none⟩ (.int .i64 ((rd_T63 l0_2 x33_1).f0))).setCell ⟨gbx1,1,none⟩ (.int .i64 ((rd_T63 l0_2 x33_1).f1))).setCell ⟨gbx1,2,none⟩ (.int .i64 ((rd_T63 l0_2 x33_1).f2)))=wx2 at nx1 nx2 nx3 ⊢
    have BKz1:=nx1
    have BKx1:=nx2
    have HB:=nx3
    clear nx1 nx2 nx3
    have hcb0_:=cV3 BKx1.out
    refine sR0 32 Xt.tab6 Xt.bits6 (fun HT_ HW_ hHeld => ?_)
    refine zA 0 ?_
    refine tA 1 ?_
    refine eD 2 Tryz.func103 (X6.calls _ _ _ A19.out) (fun nd hHeld => ?_)
    refine zA 3 ?_
    refine zA 4 ?_
    refine zA 5 ?_
    refine tA 6 ?_
    refine eD 7 Tryz.func102 (XC.calls _ _ _ A21.out) (fun nd hHeld => ?_)
    refine zA 8 ?_
    refine zA 9 ?_
    refine zA 10 ?_
    refine zA 11 ?_
    refine tA 12 ?_
    refine eD 13 Tryz.func102 (XC.calls _ _ _ A23.out) (fun nd hHeld => ?_)
    refine zA 14 ?_
    refine zA 15 ?_
    refine zA 16 ?_
    refine uA 17 ?_
    refine uA 18 ?_
    refine uA 19 ?_
    refine uA 20 ?_
    refine uA 21 ?_
    refine uA 22 ?_
    refine uA 23 ?_
    refine uA 24 ?_
    refine uA 25 ?_
    refine uA 26 ?_
    refine uA 27 ?_
    refine uA 28 ?_
    refine uA 29 ?_
    refine uA 30 ?_
    refine zA 31 ?_
    refine dA ?_
    try go_wp2
    go_ret
    exact⟨rE,(hX HB.out)⟩
   rw[if_pos rfl] at H
   revert H;refine iN ?_ ?_<;>intro c25b0 H
   ·have H':=aM H
    clear H
    try go_wp2
    have nx1:Aside0 ((((wx1.setCell ⟨gbx1,0,none⟩ (.int .i64 ((rd_T63 l0_2 x33_1).f0))).setCell ⟨gbx1,1,none⟩ (.int .i64 ((rd_T63 l0_2 x33_1).f1))).setCell ⟨gbx1,2,none⟩ (.int .i64 ((rd_T63 l0_2 x33_1).f2))).heap[gbz1]? = some (.cells #[.int .i64 a0_0,.int .i64 a0_1,.slice (some adx1) l0_2.length c0_2,.int .i64 a0_3,.slice A0_4 l0_4.length c0_4] 58 (0,0))):=⟨(bF BKz1.out)⟩
    have nx2:Aside0 ((((wx1.setCell ⟨gbx1,0,none⟩ (.int .i64 ((rd_T63 l0_2 x33_1).f0))).setCell ⟨gbx1,1,none⟩ (.int .i64 ((rd_T63 l0_2 x33_1).f1))).setCell ⟨gbx1,2,none⟩ (.int .i64 ((rd_T63 l0_2 x33_1).f2))).heap[gbx1]? = some (.cells #[.int .i64 ((rd_T63 l0_2 x33_1).f0),.int .i64 ((rd_T63 l0_2 x33_1).f1),.int .i64 ((rd_T63 l0_2 x33_1).f2)] 63 (0,0))):=⟨(bP BKx1.out)⟩
    have nx3:Aside0 (Below w.heap.size w (((wx1.setCell ⟨gbx1,0,none⟩ (.int .i64 ((rd_T63 l0_2 x33_1).f0))).setCell ⟨gbx1,1,none⟩ (.int .i64 ((rd_T63 l0_2 x33_1).f1))).setCell ⟨gbx1,2,none⟩ (.int .i64 ((rd_T63 l0_2 x33_1).f2)))):=⟨(hX HB.out)⟩
    (try clear BKz1)
    (try clear BKx1)
    (try clear HB)
    generalize (((wx1.setCell ⟨gbx1,0,none⟩ (.int .i64 ((rd_T63 l0_2 x33_1).f0))).setCell ⟨gbx1,1,none⟩ (.int .i64 ((rd_T63 l0_2 x33_1).f1))).setCell ⟨gbx1,2,none⟩ (.int .i64 ((rd_T63 l0_2 x33_1).f2)))=wx2 at nx1 nx2 nx3 ⊢
    have BKz1:=nx1
    have BKx1:=nx2
    have HB:=nx3
    clear nx1 nx2 nx3
    have hcb0_:=cV3 BKx1.out
    refine sR0 32 Xt.tab6 Xt.bits6 (fun HT_ HW_ hHeld => ?_)
    refine zA 0 ?_
    refine tA 1 ?_
    refine eD 2 Tryz.func103 (X6.calls _ _ _ A19.out) (fun nd hHeld => ?_)
    refine zA 3 ?_
    refine zA 4 ?_
    refine zA 5 ?_
    refine tA 6 ?_
    refine eD 7 Tryz.func102 (XC.calls _ _ _ A21.out) (fun nd hHeld => ?_)
    refine zA 8 ?_
    refine zA 9 ?_
    refine zA 10 ?_
    refine zA 11 ?_
    refine tA 12 ?_
    refine eD 13 Tryz.func102 (XC.calls _ _ _ A23.out) (fun nd hHeld => ?_)
    refine zA 14 ?_
    refine zA 15 ?_
    refine zA 16 ?_
    refine zA 17 ?_
    refine zA 18 ?_
    refine zA 19 ?_
    refine uA 20 ?_
    refine uA 21 ?_
    refine uA 22 ?_
    refine uA 23 ?_
    refine uA 24 ?_
    refine uA 25 ?_
    refine uA 26 ?_
    refine uA 27 ?_
    refine uA 28 ?_
    refine uA 29 ?_
    refine zA 30 ?_
    refine zA 31 ?_
    refine dA ?_
    try go_wp2
    go_roundg k1
    case measure=>have:=HKy1.out;omega
    case rel=>exact⟨(wrap64 (x33_1+1)),rS,H',⟨by have:=HKy1.out;omega⟩,⟨(bX BKz1.out)⟩,⟨(hX HB.out)⟩⟩
   obtain⟨ji26,hji26⟩:∃ j_:Int,(wrap64 (x33_1 - 1))=j_:=⟨_,rfl⟩
   replace H:(if 0≤(ji26) then (if (ji26)<(l0_2.length:Int) then (if ((rd_T63 l0_2 (ji26)).f0) ≥ ((rd_T63 l0_2 x33_1).f0) then (some false) else (Xt.l0 k1 l0_2 (l0_2.length:Int) (wrap64 (x33_1+1)) a0_0 a0_1 l0_2 a0_3 l0_4)) else (none)) else (none))=some r:=by first | (rw[hji26] at H;exact H) | (simp only[hji26] at H ⊢;exact H)
   (try rw[hji26] at A19)
   (try rw[hji26] at A21)
   (try rw[hji26] at A23)
   have hji26w:(IntKind.i64.wrap (x33_1 - 1))=ji26:=(i64_w _).trans hji26
   replace H:=ifQ H;obtain⟨c27b0,H⟩:=H
   replace H:=ifQ H;obtain⟨c28b0,H⟩:=H
   revert H;refine iP ?_ ?_<;>intro c29b0 H
   ·obtain rfl:=sI H
    try go_wp2
    have nx1:Aside0 ((((wx1.setCell ⟨gbx1,0,none⟩ (.int .i64 ((rd_T63 l0_2 x33_1).f0))).setCell ⟨gbx1,1,none⟩ (.int .i64 ((rd_T63 l0_2 x33_1).f1))).setCell ⟨gbx1,2,none⟩ (.int .i64 ((rd_T63 l0_2 x33_1).f2))).heap[gbz1]? = some (.cells #[.int .i64 a0_0,.int .i64 a0_1,.slice (some adx1) l0_2.length c0_2,.int .i64 a0_3,.slice A0_4 l0_4.length c0_4] 58 (0,0))):=⟨(bF BKz1.out)⟩
    have nx2:Aside0 ((((wx1.setCell ⟨gbx1,0,none⟩ (.int .i64 ((rd_T63 l0_2 x33_1).f0))).setCell ⟨gbx1,1,none⟩ (.int .i64 ((rd_T63 l0_2 x33_1).f1))).setCell ⟨gbx1,2,none⟩ (.int .i64 ((rd_T63 l0_2 x33_1).f2))).heap[gbx1]? = some (.cells #[.int .i64 ((rd_T63 l0_2 x33_1).f0),.int .i64 ((rd_T63 l0_2 x33_1).f1),.int .i64 ((rd_T63 l0_2 x33_1).f2)] 63 (0,0))):=⟨(bP BKx1.out)⟩
    have nx3:Aside0 (Below w.heap.size w (((wx1.setCell ⟨gbx1,0,none⟩ (.int .i64 ((rd_T63 l0_2 x33_1).f0))).setCell ⟨gbx1,1,none⟩ (.int .i64 ((rd_T63 l0_2 x33_1).f1))).setCell ⟨gbx1,2,none⟩ (.int .i64 ((rd_T63 l0_2 x33_1).f2)))):=⟨(hX HB.out)⟩
    (try clear BKz1)
    (try clear BKx1)
    (try clear HB)
    generalize (((wx1.setCell ⟨gbx1,0,none⟩ (.int .i64 ((rd_T63 l0_2 x33_1).f0))).setCell ⟨gbx1,1,none⟩ (.int .i64 ((rd_T63 l0_2 x33_1).f1))).setCell ⟨gbx1,2,none⟩ (.int .i64 ((rd_T63 l0_2 x33_1).f2)))=wx2 at nx1 nx2 nx3 ⊢
    have BKz1:=nx1
    have BKx1:=nx2
    have HB:=nx3
    clear nx1 nx2 nx3
    obtain⟨adx2,ex2,px2,qx2,hxx4⟩:=at_T63c HR0_2 HB (ji26)
    obtain rfl:adx1=adx2:=(by injection ex2)
    have hcb0_:=cV3 BKx1.out
    have hcb1_:=cV5 BKz1.out
    refine sR0 32 Xt.tab6 Xt.bits6 (fun HT_ HW_ hHeld => ?_)
    refine zA 0 ?_
    refine tA 1 ?_
    refine eD 2 Tryz.func103 (X6.calls _ _ _ A19.out) (fun nd hHeld => ?_)
    refine zA 3 ?_
    refine zA 4 ?_
    refine zA 5 ?_
    refine tA 6 ?_
    refine eD 7 Tryz.func102 (XC.calls _ _ _ A21.out) (fun nd hHeld => ?_)
    refine zA 8 ?_
    refine zA 9 ?_
    refine zA 10 ?_
    refine zA 11 ?_
    refine tA 12 ?_
    refine eD 13 Tryz.func102 (XC.calls _ _ _ A23.out) (fun nd hHeld => ?_)
    refine zA 14 ?_
    refine zA 15 ?_
    refine zA 16 ?_
    refine zA 17 ?_
    refine zA 18 ?_
    refine zA 19 ?_
    refine zA 20 ?_
    refine zA 22 ?_
    refine zA 23 ?_
    refine zA 27 ?_
    refine tA 21 ?_
    refine zA 24 ?_
    refine zA 25 ?_
    refine tA 26 ?_
    refine tA 28 ?_
    refine zA 29 ?_
    refine zA 30 ?_
    refine zA 31 ?_
    refine dA ?_
    try go_wp2
    go_ret
    exact⟨by first | rfl | (simp[errW_none,errW_some]<;>rfl) | (simp only[← hji26];first | rfl | (simp[errW_none,errW_some]<;>rfl)) | (simp[*,errW_none,errW_some]<;>rfl),(hX HB.out)⟩
   have H':=aM H
   clear H
   try go_wp2
   have nx1:Aside0 ((((wx1.setCell ⟨gbx1,0,none⟩ (.int .i64 ((rd_T63 l0_2 x33_1).f0))).setCell ⟨gbx1,1,none⟩ (.int .i64 ((rd_T63 l0_2 x33_1).f1))).setCell ⟨gbx1,2,none⟩ (.int .i64 ((rd_T63 l0_2 x33_1).f2))).heap[gbz1]? = some (.cells #[.int .i64 a0_0,.int .i64 a0_1,.slice (some adx1) l0_2.length c0_2,.int .i64 a0_3,.slice A0_4 l0_4.length c0_4] 58 (0,0))):=⟨(bF BKz1.out)⟩
   have nx2:Aside0 ((((wx1.setCell ⟨gbx1,0,none⟩ (.int .i64 ((rd_T63 l0_2 x33_1).f0))).setCell ⟨gbx1,1,none⟩ (.int .i64 ((rd_T63 l0_2 x33_1).f1))).setCell ⟨gbx1,2,none⟩ (.int .i64 ((rd_T63 l0_2 x33_1).f2))).heap[gbx1]? = some (.cells #[.int .i64 ((rd_T63 l0_2 x33_1).f0),.int .i64 ((rd_T63 l0_2 x33_1).f1),.int .i64 ((rd_T63 l0_2 x33_1).f2)] 63 (0,0))):=⟨(bP BKx1.out)⟩
   have nx3:Aside0 (Below w.heap.size w (((wx1.setCell ⟨gbx1,0,none⟩ (.int .i64 ((rd_T63 l0_2 x33_1).f0))).setCell ⟨gbx1,1,none⟩ (.int .i64 ((rd_T63 l0_2 x33_1).f1))).setCell ⟨gbx1,2,none⟩ (.int .i64 ((rd_T63 l0_2 x33_1).f2)))):=⟨(hX HB.out)⟩
   (try clear BKz1)
   (try clear BKx1)
   (try clear HB)
   generalize (((wx1.setCell ⟨gbx1,0,none⟩ (.int .i64 ((rd_T63 l0_2 x33_1).f0))).setCell ⟨gbx1,1,none⟩ (.int .i64 ((rd_T63 l0_2 x33_1).f1))).setCell ⟨gbx1,2,none⟩ (.int .i64 ((rd_T63 l0_2 x33_1).f2)))=wx2 at nx1 nx2 nx3 ⊢
   have BKz1:=nx1
   have BKx1:=nx2
   have HB:=nx3
   clear nx1 nx2 nx3
   obtain⟨adx2,ex2,px2,qx2,hxx4⟩:=at_T63c HR0_2 HB (ji26)
   obtain rfl:adx1=adx2:=(by injection ex2)
   have hcb0_:=cV3 BKx1.out
   have hcb1_:=cV5 BKz1.out
   refine sR0 32 Xt.tab6 Xt.bits6 (fun HT_ HW_ hHeld => ?_)
   refine zA 0 ?_
   refine tA 1 ?_
   refine eD 2 Tryz.func103 (X6.calls _ _ _ A19.out) (fun nd hHeld => ?_)
   refine zA 3 ?_
   refine zA 4 ?_
   refine zA 5 ?_
   refine tA 6 ?_
   refine eD 7 Tryz.func102 (XC.calls _ _ _ A21.out) (fun nd hHeld => ?_)
   refine zA 8 ?_
   refine zA 9 ?_
   refine zA 10 ?_
   refine zA 11 ?_
   refine tA 12 ?_
   refine eD 13 Tryz.func102 (XC.calls _ _ _ A23.out) (fun nd hHeld => ?_)
   refine zA 14 ?_
   refine zA 15 ?_
   refine zA 16 ?_
   refine zA 17 ?_
   refine zA 18 ?_
   refine zA 19 ?_
   refine zA 20 ?_
   refine zA 22 ?_
   refine zA 23 ?_
   refine zA 27 ?_
   refine tA 21 ?_
   refine zA 24 ?_
   refine zA 25 ?_
   refine tA 26 ?_
   refine tA 28 ?_
   refine zA 29 ?_
   refine zA 30 ?_
   refine zA 31 ?_
   refine dA ?_
   try go_wp2
   go_roundg k1
   case measure=>have:=HKy1.out;omega
   case rel=>exact⟨(wrap64 (x33_1+1)),rS,H',⟨by have:=HKy1.out;omega⟩,⟨(bX BKz1.out)⟩,⟨(hX HB.out)⟩⟩
def Xay.f (a0_0:Int) (a0_1:Int) (a0_2:Int) (a1:Int):Option (Bool):=if a0_1=0 then ((XC.f a0_0).bind fun t102=>(if t102=true then (some (a0_2 == 0)) else (some false))) else (if a0_0=0 then ((Xe.f a0_1 1 a1).bind fun t103=>(if t103=true then ((Xe.f a0_2 1 1000000).bind fun t104=>(some t104)) else (some false))) else (some false))
theorem Xay.calls (a0_0:Int) (a0_1:Int) (a0_2:Int) (a1:Int) (r:Bool) (w:World) (H:Xay.f a0_0 a0_1 a0_2 a1=some r) :
  Calls Tryz.prog 31 #[.agg #[.int .i64 a0_0,.int .i64 a0_1,.int .i64 a0_2],.int .i64 a1] w fun e w'=>e = .returned (.bool r)∧Below w.heap.size w w':=by
 have hu51:=Tryz.underlying51
 have HB:=aM (Below.refl w.heap.size w)
 unfold Xay.f at H
 go_enter Tryz.func31,Tryz.ntmps31
 go_wp2_with (refine boxE 2 #[.int .i64 a0_0,.int .i64 a0_1,.int .i64 a0_2] 51 ?_;intro gbz1 hg wz1 hbox hb;have BKz1:=aM (hbox);have GWz1:=aG hg HB;replace HB:=aS HB hb;clear hb hbox hg;have hczz1:=cZ3 BKz1.out;refine Stop.out ?_)
 refine⟨?_⟩
 revert H;refine eP ?_ ?_<;>intro c3b0 c3b1 H
 ·replace H:=bE H;obtain⟨t102,A4,H⟩:=H
  cases t102
  case true =>
   rw[if_pos rfl] at H
   obtain rfl:=sI H
   go_wp2_with (refine gD 102 10 Tryz.func102 (XC.calls _ _ _ A4.out) ?_;intro nd)
   go_ret
   exact⟨rE,(hX HB.out)⟩
  rw[if_neg nft] at H
  obtain rfl:=sI H
  go_wp2_with (refine gD 102 10 Tryz.func102 (XC.calls _ _ _ A4.out) ?_;intro nd)
  go_ret
  exact⟨rE,(hX HB.out)⟩
 revert H;refine eN ?_ ?_<;>intro c10b0 c10b1 H
 ·obtain rfl:=sI H
  exact fS
 replace H:=bE H;obtain⟨t103,A11,H⟩:=H
 cases t103
 case false =>
  rw[if_neg nft] at H
  obtain rfl:=sI H
  go_wp2_with (go_at_call 88;(with_reducible refine(Xe.calls _ _ _ _ _ A11.out).mono ?_);rintro e w' ⟨rfl,⟨nd,rfl⟩⟩)
  go_ret
  exact⟨rE,(hX HB.out)⟩
 rw[if_pos rfl] at H
 replace H:=bE H;obtain⟨t104,A13,H⟩:=H
 obtain rfl:=sI H
 go_wp2_with (first | (go_at_call 88;(with_reducible refine(Xe.calls _ _ _ _ _ A11.out).mono ?_);rintro e w' ⟨rfl,⟨nd,rfl⟩⟩) | (go_at_call 88;(with_reducible refine(Xe.calls _ _ _ _ _ A13.out).mono ?_);rintro e w' ⟨rfl,⟨nd,rfl⟩⟩))
 go_ret
 exact⟨rE,(hX HB.out)⟩
def XP.l0:Nat→List Int→Int→Int→List Int→Int→Option (Bool)
 | 0,_,_,_,_,_=>none
 | k+1,x6,x7,x8,x102000,x102001=>if x8<x7 then (if 0≤x8 then (if x8<(x6.length:Int) then (if (rd x6 x8)=0 then (XP.l0 k x6 x7 (wrap64 (x8+1)) x102000 x102001) else ((XQ.f (rd x6 x8)).bind fun t104=>(if t104=true then (if x8≤(x102000.length:Int) then ((slices_Contains_int_int.f k (x102000.take (x8:Int).toNat) (rd x6 x8)).bind fun t106=>(if t106=true then (some false) else (XP.l0 k x6 x7 (wrap64 (x8+1)) x102000 x102001))) else (none)) else (some false)))) else (none)) else (none)) else (if (x102000.length:Int)=4 then ((Xe.f x102001 0 5).bind fun t102=>(some t102)) else (some false))
def XP.f (k:Nat) (l0_0:List Int) (a0_1:Int):Option (Bool):=XP.l0 k l0_0 (l0_0.length:Int) 0 l0_0 a0_1
theorem XP.calls (k:Nat) (A0_0:Option Addr) (c0_0:Nat) (l0_0:List Int) (a0_1:Int) (r:Bool) (w:World) (h0_0:Rw (Kd.int .i64) w A0_0 c0_0 l0_0) (H:XP.f k l0_0 a0_1=some r) :
  Calls Tryz.prog 64 #[.agg #[.slice A0_0 l0_0.length c0_0,.int .i64 a0_1]] w fun e w'=>e = .returned (.bool r)∧Below w.heap.size w w':=by
 have hu26:=Tryz.underlying26
 obtain⟨HR0_0,HC0_0⟩:=h0_0
 have HB:=aM (Below.refl w.heap.size w)
 unfold XP.f at H
 have H':=aM H
 clear H
 go_enter Tryz.func64,Tryz.ntmps64
 go_wp2_with (refine boxE 1 #[.slice A0_0 l0_0.length c0_0,.int .i64 a0_1] 26 ?_;intro gbz1 hg wz1 hbox hb;have BKz1:=aM (hbox);have GWz1:=aG hg HB;replace HB:=aS HB hb;clear hb hbox hg;have hczz1:=cZ2 BKz1.out)
 go_loopg [8] k (fun kq v8 w'=>∃ (x8_1:Int),v8 = .int .i64 x8_1∧Aside0 (XP.l0 kq l0_0 (l0_0.length:Int) x8_1 l0_0 a0_1=some r)∧Aside0 (kq≤k)∧Aside0 (w'.heap[gbz1]? = some (.cells #[(.slice A0_0 l0_0.length c0_0),.int .i64 a0_1] 26 (0,0)))∧Aside0 (Below w.heap.size w w'))
 case atStart=>exact⟨(0),rS,H',⟨Nat.le_refl _⟩,⟨(bX BKz1.out)⟩,⟨(hX HB.out)⟩⟩
 case round =>
  clear H'
  try clear hczz1
  obtain⟨x8_1,rfl,HA,HKy1,BKz1,HB⟩:=hrel
  cases gk with
  | zero=>exact absurd HA.out (by simp[XP.l0])
  | succ k1 =>
   have H:=HA.out
   clear HA
   simp only[XP.l0] at H
   revert H;refine iN ?_ ?_<;>intro c4b0 H
   ·revert H;refine eN ?_ ?_<;>intro c18b0 c18b1 H
    ·obtain rfl:=sI H
     have hczx1:=cZ2 BKz1.out
     exact fS
    replace H:=bE H;obtain⟨t102,A19,H⟩:=H
    obtain rfl:=sI H
    have hczx1:=cZ2 BKz1.out
    go_wp2_with (go_at_call 88;(with_reducible refine(Xe.calls _ _ _ _ _ A19.out).mono ?_);rintro e w' ⟨rfl,⟨nd,rfl⟩⟩)
    go_ret
    exact⟨rE,(hX HB.out)⟩
   replace H:=ifQ H;obtain⟨c5b0,H⟩:=H
   replace H:=ifQ H;obtain⟨c6b0,H⟩:=H
   revert H;refine eP ?_ ?_<;>intro c7b0 c7b1 H
   ·have H':=aM H
    clear H
    obtain⟨adx1,ex1,px1,qx1,hxx1⟩:=at_ic HR0_0 HB x8_1
    cases ex1
    go_wp2
    go_roundg k1
    case measure=>have:=HKy1.out;omega
    case rel=>exact⟨(wrap64 (x8_1+1)),rS,H',⟨by have:=HKy1.out;omega⟩,⟨(bX BKz1.out)⟩,⟨(hX HB.out)⟩⟩
   replace H:=bE H;obtain⟨t104,A8,H⟩:=H
   cases t104
   case false =>
    rw[if_neg nft] at H
    obtain rfl:=sI H
    obtain⟨adx1,ex1,px1,qx1,hxx1⟩:=at_ic HR0_0 HB x8_1
    cases ex1
    go_wp2_with (go_at_call 136;(with_reducible refine(XQ.calls _ _ _ A8.out).mono ?_);rintro e w' ⟨rfl,⟨nd,rfl⟩⟩)
    go_ret
    exact⟨rE,(hX HB.out)⟩
   rw[if_pos rfl] at H
   have c10b0:=eq_true (odA:0≤x8_1)
   replace H:=ifP H;obtain⟨c11,H⟩:=H
   have c11b0:=eq_true c11
   have c11b1:=decide_eq_true c11
   clear c11
   replace H:=bE H;obtain⟨t106,A12,H⟩:=H
   obtain⟨adx1,ex1,px1,qx1,hxx1⟩:=at_ic HR0_0 HB x8_1
   cases ex1
   go_wp2_with (go_at_call 136;(with_reducible refine(XQ.calls _ _ _ A8.out).mono ?_);rintro e w' ⟨rfl,⟨nd,rfl⟩⟩;have hczx1:=cZ2 BKz1.out;obtain⟨ix1,hix1,_,hszx1,_⟩:=info_parts info3;obtain⟨hcutx1,hAx1,hCx1⟩:=print_take_of (P:=Tryz.prog) (Value.int .i64) 0 24 3 .i64 Tryz.underlying24 hix1 hszx1 (some adx1) c0_0 l0_0 x8_1 (odA) (odA) HC0_0.out;have HRx1:=aM (Kd.C_of_reads (h1:=fun _=>rfl) (hAx1 _ (Kd.reads_of_C HR0_0.out)));have HCx1:=aM hCx1;clear hAx1 hCx1 hix1 hszx1;refine Stop.out ?_)
   refine⟨?_⟩
   cases t106
   case true =>
    rw[if_pos rfl] at H
    obtain rfl:=sI H
    go_wp2_with (go_at_call 137;refine calls_of_args (args':=#[.slice (some adx1) (l0_0.take (x8_1:Int).toNat).length c0_0,.int .i64 (rd l0_0 x8_1)]) (by first | (rw[show (l0_0.take (x8_1:Int).toNat).length=x8_1.toNat from (by rw[List.length_take];have h_:(x8_1:Int)≤(l0_0.length:Int):=odA;omega)]<;>rfl) | rfl) ?_;refine(slices_Contains_int_int.calls k1 _ _ (l0_0.take (x8_1:Int).toNat) (rd l0_0 x8_1) true _ (cC HRx1.out HB.out) HCx1.out A12.out).mono ?_;rintro e w' ⟨rfl,⟨nd,rfl⟩⟩)
    go_ret
    exact⟨rE,(hX HB.out)⟩
   rw[if_neg nft] at H
   have H':=aM H
   clear H
   go_wp2_with (go_at_call 137;refine calls_of_args (args':=#[.slice (some adx1) (l0_0.take (x8_1:Int).toNat).length c0_0,.int .i64 (rd l0_0 x8_1)]) (by first | (rw[show (l0_0.take (x8_1:Int).toNat).length=x8_1.toNat from (by rw[List.length_take];have h_:(x8_1:Int)≤(l0_0.length:Int):=odA;omega)]<;>rfl) | rfl) ?_;refine(slices_Contains_int_int.calls k1 _ _ (l0_0.take (x8_1:Int).toNat) (rd l0_0 x8_1) false _ (cC HRx1.out HB.out) HCx1.out A12.out).mono ?_;rintro e w' ⟨rfl,⟨nd,rfl⟩⟩)
   go_roundg k1
   case measure=>have:=HKy1.out;omega
   case rel=>exact⟨(wrap64 (x8_1+1)),rS,H',⟨by have:=HKy1.out;omega⟩,⟨(bX BKz1.out)⟩,⟨(hX HB.out)⟩⟩
mutual
def Xx.j0:Nat→Int→Bool→Int→Int→Int→Option (Bool)
 | 0,_,_,_,_,_=>none
 | k+1,x4,x5,x102000,x102001,x102002=>if x5=true then ((Xaw.f x102001).bind fun t102=>(if t102=true then ((XQ.f x102002).bind fun t103=>(some t103)) else (some false))) else (if x4=3 then (Xx.j1 k x4 (x4 == 3) x102000 x102001 x102002) else (Xx.j1 k x4 (x4 == 4) x102000 x102001 x102002))
def Xx.j1:Nat→Int→Bool→Int→Int→Int→Option (Bool)
 | 0,_,_,_,_,_=>none
 | k+1,x4,x16,x102000,x102001,x102002=>if x16=true then ((Xaw.f x102001).bind fun t104=>(if t104=true then (some (x102002 == 0)) else (some false))) else (if x4=5 then (Xx.j2 k x4 (x4 == 5) x102000 x102001 x102002) else (Xx.j2 k x4 (x4 == 10) x102000 x102001 x102002))
def Xx.j2:Nat→Int→Bool→Int→Int→Int→Option (Bool)
 | 0,_,_,_,_,_=>none
 | k+1,x4,x27,x102000,x102001,x102002=>if x27=true then (if x102001=0 then ((XQ.f x102002).bind fun t105=>(some t105)) else (some false)) else (if x4=6 then ((Xao.f x102001).bind fun t106=>(if t106=true then (some (x102002 == 0)) else (some false))) else (if x4=7 then (if x102001=0 then (some (x102002 == 0)) else (some false)) else (if x4=8 then (if x102001=0 then (some (x102002 == 0)) else (some false)) else (if x4=9 then (if x102001=0 then (some (x102002 == 0)) else (some false)) else (some false)))))
end
def Xx.f (k:Nat) (a0_0:Int) (a0_1:Int) (a0_2:Int):Option (Bool):=if a0_0=1 then (Xx.j0 k a0_0 (a0_0 == 1) a0_0 a0_1 a0_2) else (Xx.j0 k a0_0 (a0_0 == 2) a0_0 a0_1 a0_2)
theorem Xx.calls (k:Nat) (a0_0:Int) (a0_1:Int) (a0_2:Int) (r:Bool) (w:World) (H:Xx.f k a0_0 a0_1 a0_2=some r) :
  Calls Tryz.prog 90 #[.agg #[.int .i64 a0_0,.int .i64 a0_1,.int .i64 a0_2]] w fun e w'=>e = .returned (.bool r)∧Below w.heap.size w w':=by
 have hu78:=Tryz.underlying78
 have HB:=aM (Below.refl w.heap.size w)
 unfold Xx.f at H
 have HC2:=aM H
 clear H
 go_enter Tryz.func90,Tryz.ntmps90
 go_upto_if 5 with((with_reducible refine gate_dst (N:=1) rfl ?_);refine boxE 1 #[.int .i64 a0_0,.int .i64 a0_1,.int .i64 a0_2] 78 ?_;intro gbz1 hg wz1 hbox hb;have BKz1:=aM (hbox);have GWz1:=aG hg HB;replace HB:=aS HB hb;clear hb hbox hg;have hczz1:=cZ3 BKz1.out)
 (try simp only[Act.put,List.setIfInBounds_toArray,List.set_cons_zero,List.set_cons_succ])
 go_cut [5] (fun vz1 wc=>∃ (kq:Nat) (x5_1:Bool),vz1 = .bool x5_1∧Aside0 (Xx.j0 kq a0_0 x5_1 a0_0 a0_1 a0_2=some r)∧Aside0 (kq≤k)∧Aside0 (wc.heap[gbz1]? = some (.cells #[.int .i64 a0_0,.int .i64 a0_1,.int .i64 a0_2] 78 (0,0)))∧Aside0 (Below w.heap.size w wc))
 case first =>
  have H:=HC2.out
  clear HC2
  revert H;refine eN ?_ ?_<;>intro c5b0 c5b1 H
  ·(first | rw[c5b0] | (simp only[i64_w,i32_w];rw[c5b0]) | skip)
   have H':=aM H
   clear H
   go_wp2
   go_meet
   case rel=>exact⟨_,((a0_0 == 2)),rS,H',⟨by first | omega | exact Nat.le_refl _⟩,⟨(bX BKz1.out)⟩,⟨(hX HB.out)⟩⟩
  (first | rw[c5b0] | (simp only[i64_w,i32_w];rw[c5b0]) | skip)
  have H':=aM H
  clear H
  go_wp2
  go_meet
  case rel=>exact⟨_,((a0_0 == 1)),rS,H',⟨by first | omega | exact Nat.le_refl _⟩,⟨(bX BKz1.out)⟩,⟨(hX HB.out)⟩⟩
 case rest =>
  clear HC2
  try clear hczz1
  obtain⟨kq,x5_1,rfl,HA,HJy1,BKz1,HB⟩:=hcut
  cases kq with
  | zero=>exact absurd HA.out (by simp[Xx.j0])
  | succ kj1 =>
   have H:=HA.out
   clear HA
   simp only[Xx.j0] at H
   cases x5_1
   case true =>
    rw[if_pos rfl] at H
    replace H:=bE H;obtain⟨t102,A7,H⟩:=H
    cases t102
    case false =>
     rw[if_neg nft] at H
     obtain rfl:=sI H
     have hczx1:=cZ3 BKz1.out
     go_wp2_with (refine gD 152 10 Tryz.func152 (Xaw.calls _ _ _ A7.out) ?_;intro nd)
     go_ret
     exact⟨rE,(hX HB.out)⟩
    rw[if_pos rfl] at H
    replace H:=bE H;obtain⟨t103,A9,H⟩:=H
    obtain rfl:=sI H
    have hczx1:=cZ3 BKz1.out
    go_wp2_with (first | (refine gD 152 10 Tryz.func152 (Xaw.calls _ _ _ A7.out) ?_;intro nd) | (go_at_call 136;(with_reducible refine(XQ.calls _ _ _ A9.out).mono ?_);rintro e w' ⟨rfl,⟨nd,rfl⟩⟩))
    go_ret
    exact⟨rE,(hX HB.out)⟩
   rw[if_neg nft] at H
   have HC12:=aM H
   clear H
   go_upto_if 16 with(fail)
   go_cut [16] (fun vx1 wc=>∃ (kq:Nat) (x16_11:Bool),vx1 = .bool x16_11∧Aside0 (Xx.j1 kq a0_0 x16_11 a0_0 a0_1 a0_2=some r)∧Aside0 (kq≤kj1)∧Aside0 (wc.heap[gbz1]? = some (.cells #[.int .i64 a0_0,.int .i64 a0_1,.int .i64 a0_2] 78 (0,0)))∧Aside0 (Below w.heap.size w wc))
   case first =>
    have H:=HC12.out
    clear HC12
    revert H;refine eN ?_ ?_<;>intro c13b0 c13b1 H
    ·(first | rw[c13b0] | (simp only[i64_w,i32_w];rw[c13b0]) | skip)
     have H':=aM H
     clear H
     go_wp2
     go_meet
     case rel=>exact⟨_,((a0_0 == 4)),rS,H',⟨by have:=HJy1.out;first | omega | exact Nat.le_refl _⟩,⟨(bX BKz1.out)⟩,⟨(hX HB.out)⟩⟩
    (first | rw[c13b0] | (simp only[i64_w,i32_w];rw[c13b0]) | skip)
    have H':=aM H
    clear H
    go_wp2
    go_meet
    case rel=>exact⟨_,((a0_0 == 3)),rS,H',⟨by have:=HJy1.out;first | omega | exact Nat.le_refl _⟩,⟨(bX BKz1.out)⟩,⟨(hX HB.out)⟩⟩
   case rest =>
    clear HC12
    try clear hczz1
    obtain⟨kq,x16_11,rfl,HA,HJw1,BKz1,HB⟩:=hcut
    cases kq with
    | zero=>exact absurd HA.out (by simp[Xx.j1])
    | succ kj11 =>
     have H:=HA.out
     clear HA
     simp only[Xx.j1] at H
     cases x16_11
     case true =>
      rw[if_pos rfl] at H
      replace H:=bE H;obtain⟨t104,A15,H⟩:=H
      cases t104
      case true =>
       rw[if_pos rfl] at H
       obtain rfl:=sI H
       have hczv1:=cZ3 BKz1.out
       go_wp2_with (refine gD 152 21 Tryz.func152 (Xaw.calls _ _ _ A15.out) ?_;intro nd)
       go_ret
       exact⟨rE,(hX HB.out)⟩
      rw[if_neg nft] at H
      obtain rfl:=sI H
      have hczv1:=cZ3 BKz1.out
      go_wp2_with (refine gD 152 21 Tryz.func152 (Xaw.calls _ _ _ A15.out) ?_;intro nd)
      go_ret
      exact⟨rE,(hX HB.out)⟩
     rw[if_neg nft] at H
     have HC19:=aM H
     clear H
     go_upto_if 27 with(fail)
     go_cut [27] (fun vv1 wc=>∃ (kq:Nat) (x27_18:Bool),vv1 = .bool x27_18∧Aside0 (Xx.j2 kq a0_0 x27_18 a0_0 a0_1 a0_2=some r)∧Aside0 (kq≤kj11)∧Aside0 (wc.heap[gbz1]? = some (.cells #[.int .i64 a0_0,.int .i64 a0_1,.int .i64 a0_2] 78 (0,0)))∧Aside0 (Below w.heap.size w wc))
     case first =>
      have H:=HC19.out
      clear HC19
      revert H;refine eN ?_ ?_<;>intro c20b0 c20b1 H
      ·(first | rw[c20b0] | (simp only[i64_w,i32_w];rw[c20b0]) | skip)
       have H':=aM H
       clear H
       go_wp2
       go_meet
       case rel=>exact⟨_,((a0_0 == 10)),rS,H',⟨by have:=HJy1.out;have:=HJw1.out;first | omega | exact Nat.le_refl _⟩,⟨(bX BKz1.out)⟩,⟨(hX HB.out)⟩⟩
      (first | rw[c20b0] | (simp only[i64_w,i32_w];rw[c20b0]) | skip)
      have H':=aM H
      clear H
      go_wp2
      go_meet
      case rel=>exact⟨_,((a0_0 == 5)),rS,H',⟨by have:=HJy1.out;have:=HJw1.out;first | omega | exact Nat.le_refl _⟩,⟨(bX BKz1.out)⟩,⟨(hX HB.out)⟩⟩
     case rest =>
      clear HC19
      try clear hczz1
      obtain⟨kq,x27_18,rfl,HA,HJu1,BKz1,HB⟩:=hcut
      cases kq with
      | zero=>exact absurd HA.out (by simp[Xx.j2])
      | succ kj18 =>
       have H:=HA.out
       clear HA
       simp only[Xx.j2] at H
       cases x27_18
       case true =>
        rw[if_pos rfl] at H
        revert H;refine eN ?_ ?_<;>intro c22b0 c22b1 H
        ·obtain rfl:=sI H
         have hczt1:=cZ3 BKz1.out
         exact fS
        replace H:=bE H;obtain⟨t105,A23,H⟩:=H
        obtain rfl:=sI H
        have hczt1:=cZ3 BKz1.out
        go_wp2_with (go_at_call 136;(with_reducible refine(XQ.calls _ _ _ A23.out).mono ?_);rintro e w' ⟨rfl,⟨nd,rfl⟩⟩)
        go_ret
        exact⟨rE,(hX HB.out)⟩
       rw[if_neg nft] at H
       revert H;refine eP ?_ ?_<;>intro c26b0 c26b1 H
       ·replace H:=bE H;obtain⟨t106,A27,H⟩:=H
        cases t106
        case true =>
         rw[if_pos rfl] at H
         obtain rfl:=sI H
         have hczt1:=cZ3 BKz1.out
         go_wp2_with (refine gD 153 42 Tryz.func153 (Xao.calls _ _ _ A27.out) ?_;intro nd)
         go_ret
         exact⟨rE,(hX HB.out)⟩
        rw[if_neg nft] at H
        obtain rfl:=sI H
        have hczt1:=cZ3 BKz1.out
        go_wp2_with (refine gD 153 42 Tryz.func153 (Xao.calls _ _ _ A27.out) ?_;intro nd)
        go_ret
        exact⟨rE,(hX HB.out)⟩
       revert H;refine eP ?_ ?_<;>intro c31b0 c31b1 H
       ·revert H;refine eN ?_ ?_<;>intro c32b0 c32b1 H
        ·obtain rfl:=sI H
         have hczt1:=cZ3 BKz1.out
         exact fS
        obtain rfl:=sI H
        have hczt1:=cZ3 BKz1.out
        exact fS
       revert H;refine eP ?_ ?_<;>intro c35b0 c35b1 H
       ·revert H;refine eN ?_ ?_<;>intro c36b0 c36b1 H
        ·obtain rfl:=sI H
         have hczt1:=cZ3 BKz1.out
         exact fS
        obtain rfl:=sI H
        have hczt1:=cZ3 BKz1.out
        exact fS
       revert H;refine eN ?_ ?_<;>intro c39b0 c39b1 H
       ·obtain rfl:=sI H
        exact fS
       revert H;refine eN ?_ ?_<;>intro c40b0 c40b1 H
       ·obtain rfl:=sI H
        have hczt1:=cZ3 BKz1.out
        exact fS
       obtain rfl:=sI H
       have hczt1:=cZ3 BKz1.out
       exact fS
end Go.Proofs.YthejoblnfpaojaaGreat.P
