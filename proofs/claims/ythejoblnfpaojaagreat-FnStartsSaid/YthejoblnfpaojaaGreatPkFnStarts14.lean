/- A part of the proof of the law FnStarts: texts of this seat, merged (words, printed functions of the program, plain lemmas). Conditions: none of its own. -/
import Derived.Test.YthejoblnfpaojaaGreatPkFnStarts11
set_option linter.unusedSimpArgs false
set_option linter.unusedVariables false
set_option maxHeartbeats 8000000
set_option maxRecDepth 100000
namespace Go.Proofs.YthejoblnfpaojaaGreat.P
open Go.Proofs.YthejoblnfpaojaaGreatZ Go.RowKit Go.Proofs.YthejoblnfpaojaaGreatW.PrintWords Go.Proofs.YthejoblnfpaojaaGreatW.PrintLast Go.Proofs.YthejoblnfpaojaaGreatW.PrintMore
attribute [local go_sem] max2_int min2_int max_two min_two max_three min_three max_four min_four   -- for this text's walks alone
mutual
def Xg.j0:Nat→Bool→Int→Int→List (S63)→Int→List Int→Option (Bool)
 | 0,_,_,_,_,_,_=>none
 | k+1,x45,x102000,x102001,x102002,x102003,x102004=>if x45=true then (some false) else (Xg.l0 k 0 x102000 x102001 x102002 x102003 x102004)
def Xg.l0:Nat→Int→Int→Int→List (S63)→Int→List Int→Option (Bool)
 | 0,_,_,_,_,_,_=>none
 | k+1,x3,x102000,x102001,x102002,x102003,x102004=>if x3<(x102002.length:Int) then (if 0≤x3 then ((Xb.f ((rd_T63 x102002 x3).f0) 0 19).bind fun t106=>(if t106=true then ((Xb.f ((rd_T63 x102002 x3).f1) 0 1000).bind fun t107=>(if t107=true then ((Xb.f ((rd_T63 x102002 x3).f2) 0 1000).bind fun t108=>(if t108=true then (if x3 > 0 then (if 0≤(wrap64 (x3 - 1)) then (if (wrap64 (x3 - 1))<(x102002.length:Int) then (if ((rd_T63 x102002 (wrap64 (x3 - 1))).f0) ≥ ((rd_T63 x102002 x3).f0) then (some false) else (Xg.l0 k (wrap64 (x3+1)) x102000 x102001 x102002 x102003 x102004)) else (none)) else (none)) else (Xg.l0 k (wrap64 (x3+1)) x102000 x102001 x102002 x102003 x102004)) else (some false))) else (some false))) else (some false))) else (none)) else (some true)
end
def Xg.f (k:Nat) (a0_0:Int) (a0_1:Int) (l0_2:List (S63)) (a0_3:Int) (l0_4:List Int):Option (Bool):=if a0_0=0 then (if a0_1=0 then (if (l0_2.length:Int)=0 then (if a0_3=0 then (some ((l0_4.length:Int) == 0)) else (some false)) else (some false)) else (some false)) else ((Xb.f a0_0 1 1000000).bind fun t102=>(if t102=true then ((Xb.f a0_1 1 3).bind fun t103=>(if t103=true then (Xg.j0 k (decide ((l0_2.length:Int) > 20)) a0_0 a0_1 l0_2 a0_3 l0_4) else (Xg.j0 k true a0_0 a0_1 l0_2 a0_3 l0_4))) else (Xg.j0 k true a0_0 a0_1 l0_2 a0_3 l0_4)))
def Xg.T9:Bool × List (List Nat × List Nat):=(true,[([],[]),([0],[0]),([1],[1]),([2],[2]),([3,2],[3]),([4],[4]),([5,4],[4,5]),([6,4,4],[4,6]),([7,4],[4,7]),([4,8],[4,8]),([9,7],[9]),([10],[10]),([11,10],[10,11]),([12,10,10],[10,12]),([13,10],[10,13]),([10,14],[10,14]),([15,13],[15]),([16],[16]),([17,16],[16,17]),([18,16,16],[16,18]),([19],[19]),([20,19],[19,20]),([19],[19]),([22,19],[19,22]),([21,23,19],[19,21,23]),([24,19],[19,24]),([25,19],[19,25]),([19],[19]),([27,19],[19,27]),([26,28,19],[19,26,28]),([19,29,16],[16,19,29]),([16,30],[16,30])])
def Xg.B9:List Nat:=[0,1,3,7,15,31,63,127,255,511,1023,2047,4095,8191,16383,32767,65535,131071,262143,524287,1048575,2097151,1048575,5242879,16777215,33554431,67108863,1048575,135266303,536870911,1073741823,2147483647]
theorem Xg.tab9:rtab .any (opsOf Tryz.f34 9)=Xg.T9:=by kernel_rfl
theorem Xg.bits9:waitsOk Xg.T9.2 Xg.B9=true:=by kernel_rfl
theorem Xg.calls (k:Nat) (a0_0:Int) (a0_1:Int) (A0_2:Option Addr) (c0_2:Nat) (l0_2:List (S63)) (a0_3:Int) (A0_4:Option Addr) (c0_4:Nat) (l0_4:List Int) (r:Bool) (w:World) (h0_2:Rw k63 w A0_2 c0_2 l0_2) (h0_4:Rw (Kd.int .i64) w A0_4 c0_4 l0_4) (H:Xg.f k a0_0 a0_1 l0_2 a0_3 l0_4=some r) :
  Calls Tryz.prog 34 #[.agg #[.int .i64 a0_0,.int .i64 a0_1,.slice A0_2 l0_2.length c0_2,.int .i64 a0_3,.slice A0_4 l0_4.length c0_4]] w fun e w'=>e = .returned (.bool r)∧Below w.heap.size w w':=by
 have hu58:=Tryz.underlying58
 have hu63:=Tryz.underlying63
 obtain⟨HR0_2,HC0_2⟩:=h0_2
 obtain⟨HR0_4,HC0_4⟩:=h0_4
 have HB:=aM (Below.refl w.heap.size w)
 unfold Xg.f at H
 go_enter Tryz.func34,Tryz.ntmps34
 go_wp2_with ((with_reducible refine gate_dst (N:=1) rfl ?_);(try (refine gate_guard (by rfl) ?_;dsimp only));refine boxF 1 #[.int .i64 a0_0,.int .i64 a0_1,.slice A0_2 l0_2.length c0_2,.int .i64 a0_3,.slice A0_4 l0_4.length c0_4] 58 ?_;intro gbz1 hg wz1 hbox hb;have BKz1:=aM (hbox);have GWz1:=aG hg HB;replace HB:=aS HB hb;clear hb hbox hg;have hczz1:=cZ5 BKz1.out;refine Stop.out ?_)
 refine⟨?_⟩
 revert H;refine eP ?_ ?_<;>intro c2b0 c2b1 H
 ·revert H;refine eN ?_ ?_<;>intro c3b0 c3b1 H
  ·obtain rfl:=sI H
   exact fS
  by_cases c4:(l0_2.length:Int)=0
  case neg =>
   rw[if_neg c4] at H
   obtain⟨c4b0,c4b1⟩:=eqF c4
   have c4b2:¬ (l0_2=[]):=fun h_=>c4 (by rw[h_];rfl)
   exact fR
  rw[if_pos c4] at H
  obtain⟨c4b0,c4b1⟩:=eqT c4
  clear c4
  revert H;refine eN ?_ ?_<;>intro c5b0 c5b1 H
  ·obtain rfl:=sI H
   exact fS
  exact fR
 have HC14:=aM H
 clear H
 go_upto_region 3 with(fail)
 (try simp only[Act.put,List.setIfInBounds_toArray,List.set_cons_zero,List.set_cons_succ])
 go_cut [45] (fun vz1 wc=>∃ (kq:Nat) (x45_13:Bool),vz1 = .bool x45_13∧Aside0 (Xg.j0 kq x45_13 a0_0 a0_1 l0_2 a0_3 l0_4=some r)∧Aside0 (kq≤k)∧Aside0 (wc.heap[gbz1]? = some (.cells #[.int .i64 a0_0,.int .i64 a0_1,(.slice A0_2 l0_2.length c0_2),.int .i64 a0_3,(.slice A0_4 l0_4.length c0_4)] 58 (0,0)))∧Aside0 (Below w.heap.size w wc))
 case first =>
  have H:=HC14.out
  clear HC14
  replace H:=bE H;obtain⟨t102,A17,H⟩:=H
  cases t102
  case false =>
   rw[if_neg nft] at H
   have H':=aM H
   clear H
   have hczy1:=cZ5 BKz1.out
   go_wp2_with (refine gD 95 32 Tryz.func95 (Xb.calls _ _ _ _ _ A17.out) ?_;intro nd)
   go_meet
   case rel=>exact⟨_,(true),rS,H',⟨by first | omega | exact Nat.le_refl _⟩,⟨(bX BKz1.out)⟩,⟨(hX HB.out)⟩⟩
  rw[if_pos rfl] at H
  replace H:=bE H;obtain⟨t103,A19,H⟩:=H
  have hczy1:=cZ5 BKz1.out
  go_wp2_with (refine gD 95 32 Tryz.func95 (Xb.calls _ _ _ _ _ A17.out) ?_;intro nd;refine Stop.out ?_)
  refine⟨?_⟩
  cases t103
  case true =>
   rw[if_pos rfl] at H
   have H':=aM H
   clear H
   go_wp2_with (go_at_call 95;(with_reducible refine(Xb.calls _ _ _ _ _ A19.out).mono ?_);rintro e w' ⟨rfl,⟨nd,rfl⟩⟩)
   go_meet
   case rel=>exact⟨_,(decide ((l0_2.length:Int) > 20)),rS,H',⟨by first | omega | exact Nat.le_refl _⟩,⟨(bX BKz1.out)⟩,⟨(hX HB.out)⟩⟩
  rw[if_neg nft] at H
  have H':=aM H
  clear H
  go_wp2_with (go_at_call 95;(with_reducible refine(Xb.calls _ _ _ _ _ A19.out).mono ?_);rintro e w' ⟨rfl,⟨nd,rfl⟩⟩)
  go_meet
  case rel=>exact⟨_,(true),rS,H',⟨by first | omega | exact Nat.le_refl _⟩,⟨(bX BKz1.out)⟩,⟨(hX HB.out)⟩⟩
 case rest =>
  clear HC14
  try clear c2b0
  try clear c2b1
  try clear hczz1
  obtain⟨kq,x45_13,rfl,HA,HJy1,BKz1,HB⟩:=hcut
  cases kq with
  | zero=>exact absurd HA.out (by simp[Xg.j0])
  | succ kj13 =>
   have H:=HA.out
   clear HA
   simp only[Xg.j0] at H
   cases x45_13
   case true =>
    rw[if_pos rfl] at H
    exact fR
   rw[if_neg nft] at H
   have H':=aM H
   clear H
   go_wp2
   go_loopg [3] kj13 (fun kq v3 w'=>∃ (x3_2:Int),v3 = .int .i64 x3_2∧Aside0 (Xg.l0 kq x3_2 a0_0 a0_1 l0_2 a0_3 l0_4=some r)∧Aside0 (kq≤kj13)∧Aside0 (w'.heap[gbz1]? = some (.cells #[.int .i64 a0_0,.int .i64 a0_1,(.slice A0_2 l0_2.length c0_2),.int .i64 a0_3,(.slice A0_4 l0_4.length c0_4)] 58 (0,0)))∧Aside0 (Below w.heap.size w w'))
   case atStart=>exact⟨(0),rS,H',⟨Nat.le_refl _⟩,⟨(bX BKz1.out)⟩,⟨(hX HB.out)⟩⟩
   case round =>
    clear H'
    try clear c2b0
    try clear c2b1
    try clear hczz1
    obtain⟨x3_2,rfl,HA,HKw1,BKz1,HB⟩:=hrel
    cases gk with
    | zero=>exact absurd HA.out (by simp[Xg.l0])
    | succ k2 =>
     have H:=HA.out
     clear HA
     simp only[Xg.l0] at H
     revert H;refine iN ?_ ?_<;>intro c25b0 H
     ·obtain rfl:=sI H
      have hczv1:=cZ5 BKz1.out
      exact fS
     replace H:=ifQ H;obtain⟨c26b0,H⟩:=H
     replace H:=bE H;obtain⟨t106,A27,H⟩:=H
     have hczv1:=cZ5 BKz1.out
     obtain⟨adv1,ev1,pv1,qv1,hxv1⟩:=at_T63c HR0_2 HB x3_2
     cases ev1
     go_wp2_with ((with_reducible refine gate_dst (N:=4) rfl ?_);(try (refine gate_guard (by rfl) ?_;dsimp only));refine boxF 4 #[.int .i64 0,.int .i64 0,.int .i64 0] 63 ?_;intro gbv1 hg wv1 hbox hb;have BKv1:=aM (hbox);have GWv1:=aG hg HB;have NBv1:=aL hg BKz1;have NBv2:=aR hg BKz1;replace BKz1:=aB BKz1 hb;replace HB:=aS HB hb;clear hb hbox hg;have hnbv1:=nB NBv2 NBv1;have hczv6:=cZ3 BKv1.out;refine Stop.out ?_)
     refine⟨?_⟩
     cases t106
     case false =>
      rw[if_neg nft] at H
      obtain rfl:=sI H
      try go_wp2
      have nv1:Aside0 ((((wv1.setCell ⟨gbv1,0,none⟩ (.int .i64 ((rd_T63 l0_2 x3_2).f0))).setCell ⟨gbv1,1,none⟩ (.int .i64 ((rd_T63 l0_2 x3_2).f1))).setCell ⟨gbv1,2,none⟩ (.int .i64 ((rd_T63 l0_2 x3_2).f2))).heap[gbz1]? = some (.cells #[.int .i64 a0_0,.int .i64 a0_1,.slice (some adv1) l0_2.length c0_2,.int .i64 a0_3,.slice A0_4 l0_4.length c0_4] 58 (0,0))):=⟨(bF BKz1.out)⟩
      have nv2:Aside0 ((((wv1.setCell ⟨gbv1,0,none⟩ (.int .i64 ((rd_T63 l0_2 x3_2).f0))).setCell ⟨gbv1,1,none⟩ (.int .i64 ((rd_T63 l0_2 x3_2).f1))).setCell ⟨gbv1,2,none⟩ (.int .i64 ((rd_T63 l0_2 x3_2).f2))).heap[gbv1]? = some (.cells #[.int .i64 ((rd_T63 l0_2 x3_2).f0),.int .i64 ((rd_T63 l0_2 x3_2).f1),.int .i64 ((rd_T63 l0_2 x3_2).f2)] 63 (0,0))):=⟨(bP BKv1.out)⟩
      have nv3:Aside0 (Below w.heap.size w (((wv1.setCell ⟨gbv1,0,none⟩ (.int .i64 ((rd_T63 l0_2 x3_2).f0))).setCell ⟨gbv1,1,none⟩ (.int .i64 ((rd_T63 l0_2 x3_2).f1))).setCell ⟨gbv1,2,none⟩ (.int .i64 ((rd_T63 l0_2 x3_2).f2)))):=⟨(hX HB.out)⟩
      (try clear BKz1)
      (try clear BKv1)
      (try clear HB)
      generalize (((wv1.setCell ⟨gbv1,0,none⟩ (.int .i64 ((rd_T63 l0_2 x3_2).f0))).setCell ⟨gbv1,1,none⟩ (.int .i64 ((rd_T63 l0_2 x3_2).f1))).setCell ⟨gbv1,2,none⟩ (.int .i64 ((rd_T63 l0_2 x3_2).f2)))=wv2 at nv1 nv2 nv3 ⊢
      have BKz1:=nv1
      have BKv1:=nv2
      have HB:=nv3
      clear nv1 nv2 nv3
      have hcb0_:=cV3 BKv1.out
      refine sR0 32 Xg.tab9 Xg.bits9 (fun HT_ HW_ hHeld => ?_)
      refine zA 0 ?_
      refine tA 1 ?_
      refine eD 2 Tryz.func95 (Xb.calls _ _ _ _ _ A27.out) (fun nd hHeld => ?_)
      refine zA 3 ?_
      refine zA 4 ?_
      refine uA 5 ?_
      refine uA 6 ?_
      refine uA 7 ?_
      refine uA 8 ?_
      refine zA 9 ?_
      refine zA 10 ?_
      refine uA 11 ?_
      refine uA 12 ?_
      refine uA 13 ?_
      refine uA 14 ?_
      refine zA 15 ?_
      refine zA 16 ?_
      refine uA 17 ?_
      refine uA 18 ?_
      refine uA 19 ?_
      refine uA 20 ?_
      refine uA 21 ?_
      refine uA 22 ?_
      refine uA 23 ?_
      refine uA 24 ?_
      refine uA 25 ?_
      refine uA 26 ?_
      refine uA 27 ?_
      refine uA 28 ?_
      refine uA 29 ?_
      refine uA 30 ?_
      refine zA 31 ?_
      refine dA ?_
      try go_wp2
      go_ret
      exact⟨rE,(hX HB.out)⟩
     rw[if_pos rfl] at H
     replace H:=bE H;obtain⟨t107,A29,H⟩:=H
     cases t107
     case false =>
      rw[if_neg nft] at H
      obtain rfl:=sI H
      try go_wp2
      have nv1:Aside0 ((((wv1.setCell ⟨gbv1,0,none⟩ (.int .i64 ((rd_T63 l0_2 x3_2).f0))).setCell ⟨gbv1,1,none⟩ (.int .i64 ((rd_T63 l0_2 x3_2).f1))).setCell ⟨gbv1,2,none⟩ (.int .i64 ((rd_T63 l0_2 x3_2).f2))).heap[gbz1]? = some (.cells #[.int .i64 a0_0,.int .i64 a0_1,.slice (some adv1) l0_2.length c0_2,.int .i64 a0_3,.slice A0_4 l0_4.length c0_4] 58 (0,0))):=⟨(bF BKz1.out)⟩
      have nv2:Aside0 ((((wv1.setCell ⟨gbv1,0,none⟩ (.int .i64 ((rd_T63 l0_2 x3_2).f0))).setCell ⟨gbv1,1,none⟩ (.int .i64 ((rd_T63 l0_2 x3_2).f1))).setCell ⟨gbv1,2,none⟩ (.int .i64 ((rd_T63 l0_2 x3_2).f2))).heap[gbv1]? = some (.cells #[.int .i64 ((rd_T63 l0_2 x3_2).f0),.int .i64 ((rd_T63 l0_2 x3_2).f1),.int .i64 ((rd_T63 l0_2 x3_2).f2)] 63 (0,0))):=⟨(bP BKv1.out)⟩
      have nv3:Aside0 (Below w.heap.size w (((wv1.setCell ⟨gbv1,0,none⟩ (.int .i64 ((rd_T63 l0_2 x3_2).f0))).setCell ⟨gbv1,1,none⟩ (.int .i64 ((rd_T63 l0_2 x3_2).f1))).setCell ⟨gbv1,2,none⟩ (.int .i64 ((rd_T63 l0_2 x3_2).f2)))):=⟨(hX HB.out)⟩
      (try clear BKz1)
      (try clear BKv1)
      (try clear HB)
      generalize (((wv1.setCell ⟨gbv1,0,none⟩ (.int .i64 ((rd_T63 l0_2 x3_2).f0))).setCell ⟨gbv1,1,none⟩ (.int .i64 ((rd_T63 l0_2 x3_2).f1))).setCell ⟨gbv1,2,none⟩ (.int .i64 ((rd_T63 l0_2 x3_2).f2)))=wv2 at nv1 nv2 nv3 ⊢
      have BKz1:=nv1
      have BKv1:=nv2
      have HB:=nv3
      clear nv1 nv2 nv3
      have hcb0_:=cV3 BKv1.out
      refine sR0 32 Xg.tab9 Xg.bits9 (fun HT_ HW_ hHeld => ?_)
      refine zA 0 ?_
      refine tA 1 ?_
      refine eD 2 Tryz.func95 (Xb.calls _ _ _ _ _ A27.out) (fun nd hHeld => ?_)
      refine zA 3 ?_
      refine zA 4 ?_
      refine zA 5 ?_
      refine tA 6 ?_
      refine eD 7 Tryz.func95 (Xb.calls _ _ _ _ _ A29.out) (fun nd hHeld => ?_)
      refine zA 8 ?_
      refine zA 9 ?_
      refine zA 10 ?_
      refine uA 11 ?_
      refine uA 12 ?_
      refine uA 13 ?_
      refine uA 14 ?_
      refine zA 15 ?_
      refine zA 16 ?_
      refine uA 17 ?_
      refine uA 18 ?_
      refine uA 19 ?_
      refine uA 20 ?_
      refine uA 21 ?_
      refine uA 22 ?_
      refine uA 23 ?_
      refine uA 24 ?_
      refine uA 25 ?_
      refine uA 26 ?_
      refine uA 27 ?_
      refine uA 28 ?_
      refine uA 29 ?_
      refine uA 30 ?_
      refine zA 31 ?_
      refine dA ?_
      try go_wp2
      go_ret
      exact⟨rE,(hX HB.out)⟩
     rw[if_pos rfl] at H
     replace H:=bE H;obtain⟨t108,A31,H⟩:=H
     cases t108
     case false =>
      rw[if_neg nft] at H
      obtain rfl:=sI H
      try go_wp2
      have nv1:Aside0 ((((wv1.setCell ⟨gbv1,0,none⟩ (.int .i64 ((rd_T63 l0_2 x3_2).f0))).setCell ⟨gbv1,1,none⟩ (.int .i64 ((rd_T63 l0_2 x3_2).f1))).setCell ⟨gbv1,2,none⟩ (.int .i64 ((rd_T63 l0_2 x3_2).f2))).heap[gbz1]? = some (.cells #[.int .i64 a0_0,.int .i64 a0_1,.slice (some adv1) l0_2.length c0_2,.int .i64 a0_3,.slice A0_4 l0_4.length c0_4] 58 (0,0))):=⟨(bF BKz1.out)⟩
      have nv2:Aside0 ((((wv1.setCell ⟨gbv1,0,none⟩ (.int .i64 ((rd_T63 l0_2 x3_2).f0))).setCell ⟨gbv1,1,none⟩ (.int .i64 ((rd_T63 l0_2 x3_2).f1))).setCell ⟨gbv1,2,none⟩ (.int .i64 ((rd_T63 l0_2 x3_2).f2))).heap[gbv1]? = some (.cells #[.int .i64 ((rd_T63 l0_2 x3_2).f0),.int .i64 ((rd_T63 l0_2 x3_2).f1),.int .i64 ((rd_T63 l0_2 x3_2).f2)] 63 (0,0))):=⟨(bP BKv1.out)⟩
      have nv3:Aside0 (Below w.heap.size w (((wv1.setCell ⟨gbv1,0,none⟩ (.int .i64 ((rd_T63 l0_2 x3_2).f0))).setCell ⟨gbv1,1,none⟩ (.int .i64 ((rd_T63 l0_2 x3_2).f1))).setCell ⟨gbv1,2,none⟩ (.int .i64 ((rd_T63 l0_2 x3_2).f2)))):=⟨(hX HB.out)⟩
      (try clear BKz1)
      (try clear BKv1)
      (try clear HB)
      generalize (((wv1.setCell ⟨gbv1,0,none⟩ (.int .i64 ((rd_T63 l0_2 x3_2).f0))).setCell ⟨gbv1,1,none⟩ (.int .i64 ((rd_T63 l0_2 x3_2).f1))).setCell ⟨gbv1,2,none⟩ (.int .i64 ((rd_T63 l0_2 x3_2).f2)))=wv2 at nv1 nv2 nv3 ⊢
      have BKz1:=nv1
      have BKv1:=nv2
      have HB:=nv3
      clear nv1 nv2 nv3
      have hcb0_:=cV3 BKv1.out
      refine sR0 32 Xg.tab9 Xg.bits9 (fun HT_ HW_ hHeld => ?_)
      refine zA 0 ?_
      refine tA 1 ?_
      refine eD 2 Tryz.func95 (Xb.calls _ _ _ _ _ A27.out) (fun nd hHeld => ?_)
      refine zA 3 ?_
      refine zA 4 ?_
      refine zA 5 ?_
      refine tA 6 ?_
      refine eD 7 Tryz.func95 (Xb.calls _ _ _ _ _ A29.out) (fun nd hHeld => ?_)
      refine zA 8 ?_
      refine zA 9 ?_
      refine zA 10 ?_
      refine zA 11 ?_
      refine tA 12 ?_
      refine eD 13 Tryz.func95 (Xb.calls _ _ _ _ _ A31.out) (fun nd hHeld => ?_)
      refine zA 14 ?_
      refine zA 15 ?_
      refine zA 16 ?_
      refine uA 17 ?_
      refine uA 18 ?_
      refine uA 19 ?_
      refine uA 20 ?_
      refine uA 21 ?_
      refine uA 22 ?_
      refine uA 23 ?_
      refine uA 24 ?_
      refine uA 25 ?_
      refine uA 26 ?_
      refine uA 27 ?_
      refine uA 28 ?_
      refine uA 29 ?_
      refine uA 30 ?_
      refine zA 31 ?_
      refine dA ?_
      try go_wp2
      go_ret
      exact⟨rE,(hX HB.out)⟩
     rw[if_pos rfl] at H
     revert H;refine iN ?_ ?_<;>intro c33b0 H
     ·have H':=aM H
      clear H
      try go_wp2
      have nv1:Aside0 ((((wv1.setCell ⟨gbv1,0,none⟩ (.int .i64 ((rd_T63 l0_2 x3_2).f0))).setCell ⟨gbv1,1,none⟩ (.int .i64 ((rd_T63 l0_2 x3_2).f1))).setCell ⟨gbv1,2,none⟩ (.int .i64 ((rd_T63 l0_2 x3_2).f2))).heap[gbz1]? = some (.cells #[.int .i64 a0_0,.int .i64 a0_1,.slice (some adv1) l0_2.length c0_2,.int .i64 a0_3,.slice A0_4 l0_4.length c0_4] 58 (0,0))):=⟨(bF BKz1.out)⟩
      have nv2:Aside0 ((((wv1.setCell ⟨gbv1,0,none⟩ (.int .i64 ((rd_T63 l0_2 x3_2).f0))).setCell ⟨gbv1,1,none⟩ (.int .i64 ((rd_T63 l0_2 x3_2).f1))).setCell ⟨gbv1,2,none⟩ (.int .i64 ((rd_T63 l0_2 x3_2).f2))).heap[gbv1]? = some (.cells #[.int .i64 ((rd_T63 l0_2 x3_2).f0),.int .i64 ((rd_T63 l0_2 x3_2).f1),.int .i64 ((rd_T63 l0_2 x3_2).f2)] 63 (0,0))):=⟨(bP BKv1.out)⟩
      have nv3:Aside0 (Below w.heap.size w (((wv1.setCell ⟨gbv1,0,none⟩ (.int .i64 ((rd_T63 l0_2 x3_2).f0))).setCell ⟨gbv1,1,none⟩ (.int .i64 ((rd_T63 l0_2 x3_2).f1))).setCell ⟨gbv1,2,none⟩ (.int .i64 ((rd_T63 l0_2 x3_2).f2)))):=⟨(hX HB.out)⟩
      (try clear BKz1)
      (try clear BKv1)
      (try clear HB)
      generalize (((wv1.setCell ⟨gbv1,0,none⟩ (.int .i64 ((rd_T63 l0_2 x3_2).f0))).setCell ⟨gbv1,1,none⟩ (.int .i64 ((rd_T63 l0_2 x3_2).f1))).setCell ⟨gbv1,2,none⟩ (.int .i64 ((rd_T63 l0_2 x3_2).f2)))=wv2 at nv1 nv2 nv3 ⊢
      have BKz1:=nv1
      have BKv1:=nv2
      have HB:=nv3
      clear nv1 nv2 nv3
      have hcb0_:=cV3 BKv1.out
      refine sR0 32 Xg.tab9 Xg.bits9 (fun HT_ HW_ hHeld => ?_)
      refine zA 0 ?_
      refine tA 1 ?_
      refine eD 2 Tryz.func95 (Xb.calls _ _ _ _ _ A27.out) (fun nd hHeld => ?_)
      refine zA 3 ?_
      refine zA 4 ?_
      refine zA 5 ?_
      refine tA 6 ?_
      refine eD 7 Tryz.func95 (Xb.calls _ _ _ _ _ A29.out) (fun nd hHeld => ?_)
      refine zA 8 ?_
      refine zA 9 ?_
      refine zA 10 ?_
      refine zA 11 ?_
      refine tA 12 ?_
      refine eD 13 Tryz.func95 (Xb.calls _ _ _ _ _ A31.out) (fun nd hHeld => ?_)
      refine zA 14 ?_
      refine zA 15 ?_
      refine zA 16 ?_
      refine zA 17 ?_
      refine zA 18 ?_
      refine zA 19 ?_
      refine uA 20 ?_
      refine uA 21 ?_
      refine uA 22 ?_
      refine uA 23 ?_
      refine uA 24 ?_
      refine uA 25 ?_
      refine uA 26 ?_
      refine uA 27 ?_
      refine uA 28 ?_
      refine uA 29 ?_
      refine zA 30 ?_
      refine zA 31 ?_
      refine dA ?_
      try go_wp2
      go_roundg k2
      case measure=>have:=HJy1.out;have:=HKw1.out;omega
      case rel=>exact⟨(wrap64 (x3_2+1)),rS,H',⟨by have:=HJy1.out;have:=HKw1.out;omega⟩,⟨(bX BKz1.out)⟩,⟨(hX HB.out)⟩⟩
     obtain⟨ji34,hji34⟩:∃ j_:Int,(wrap64 (x3_2 - 1))=j_:=⟨_,rfl⟩
     replace H:(if 0≤(ji34) then (if (ji34)<(l0_2.length:Int) then (if ((rd_T63 l0_2 (ji34)).f0) ≥ ((rd_T63 l0_2 x3_2).f0) then (some false) else (Xg.l0 k2 (wrap64 (x3_2+1)) a0_0 a0_1 l0_2 a0_3 l0_4)) else (none)) else (none))=some r:=by first | (rw[hji34] at H;exact H) | (simp only[hji34] at H ⊢;exact H)
     (try rw[hji34] at A27)
     (try rw[hji34] at A29)
     (try rw[hji34] at A31)
     have hji34w:(IntKind.i64.wrap (x3_2 - 1))=ji34:=(i64_w _).trans hji34
     replace H:=ifQ H;obtain⟨c35b0,H⟩:=H
     replace H:=ifQ H;obtain⟨c36b0,H⟩:=H
     revert H;refine iP ?_ ?_<;>intro c37b0 H
     ·obtain rfl:=sI H
      try go_wp2
      have nv1:Aside0 ((((wv1.setCell ⟨gbv1,0,none⟩ (.int .i64 ((rd_T63 l0_2 x3_2).f0))).setCell ⟨gbv1,1,none⟩ (.int .i64 ((rd_T63 l0_2 x3_2).f1))).setCell ⟨gbv1,2,none⟩ (.int .i64 ((rd_T63 l0_2 x3_2).f2))).heap[gbz1]? = some (.cells #[.int .i64 a0_0,.int .i64 a0_1,.slice (some adv1) l0_2.length c0_2,.int .i64 a0_3,.slice A0_4 l0_4.length c0_4] 58 (0,0))):=⟨(bF BKz1.out)⟩
      have nv2:Aside0 ((((wv1.setCell ⟨gbv1,0,none⟩ (.int .i64 ((rd_T63 l0_2 x3_2).f0))).setCell ⟨gbv1,1,none⟩ (.int .i64 ((rd_T63 l0_2 x3_2).f1))).setCell ⟨gbv1,2,none⟩ (.int .i64 ((rd_T63 l0_2 x3_2).f2))).heap[gbv1]? = some (.cells #[.int .i64 ((rd_T63 l0_2 x3_2).f0),.int .i64 ((rd_T63 l0_2 x3_2).f1),.int .i64 ((rd_T63 l0_2 x3_2).f2)] 63 (0,0))):=⟨(bP BKv1.out)⟩
      have nv3:Aside0 (Below w.heap.size w (((wv1.setCell ⟨gbv1,0,none⟩ (.int .i64 ((rd_T63 l0_2 x3_2).f0))).setCell ⟨gbv1,1,none⟩ (.int .i64 ((rd_T63 l0_2 x3_2).f1))).setCell ⟨gbv1,2,none⟩ (.int .i64 ((rd_T63 l0_2 x3_2).f2)))):=⟨(hX HB.out)⟩
      (try clear BKz1)
      (try clear BKv1)
      (try clear HB)
      generalize (((wv1.setCell ⟨gbv1,0,none⟩ (.int .i64 ((rd_T63 l0_2 x3_2).f0))).setCell ⟨gbv1,1,none⟩ (.int .i64 ((rd_T63 l0_2 x3_2).f1))).setCell ⟨gbv1,2,none⟩ (.int .i64 ((rd_T63 l0_2 x3_2).f2)))=wv2 at nv1 nv2 nv3 ⊢
      have BKz1:=nv1
      have BKv1:=nv2
      have HB:=nv3
      clear nv1 nv2 nv3
      obtain⟨adv2,ev2,pv2,qv2,hxv4⟩:=at_T63c HR0_2 HB (ji34)
      obtain rfl:adv1=adv2:=(by injection ev2)
      have hcb0_:=cV3 BKv1.out
      have hcb1_:=cV5 BKz1.out
      refine sR0 32 Xg.tab9 Xg.bits9 (fun HT_ HW_ hHeld => ?_)
      refine zA 0 ?_
      refine tA 1 ?_
      refine eD 2 Tryz.func95 (Xb.calls _ _ _ _ _ A27.out) (fun nd hHeld => ?_)
      refine zA 3 ?_
      refine zA 4 ?_
      refine zA 5 ?_
      refine tA 6 ?_
      refine eD 7 Tryz.func95 (Xb.calls _ _ _ _ _ A29.out) (fun nd hHeld => ?_)
      refine zA 8 ?_
      refine zA 9 ?_
      refine zA 10 ?_
      refine zA 11 ?_
      refine tA 12 ?_
      refine eD 13 Tryz.func95 (Xb.calls _ _ _ _ _ A31.out) (fun nd hHeld => ?_)
      refine zA 14 ?_
      refine zA 15 ?_
      refine zA 16 ?_
      refine zA 17 ?_
      refine zA 18 ?_
      refine zA 19 ?_
      refine zA 20 ?_
      refine zA 22 ?_
      refine zA 23 ?_
      refine zA 27 ?_
      refine tA 21 ?_
      refine zA 24 ?_
      refine zA 25 ?_
      refine tA 26 ?_
      refine tA 28 ?_
      refine zA 29 ?_
      refine zA 30 ?_
      refine zA 31 ?_
      refine dA ?_
      try go_wp2
      go_ret
      exact⟨by first | rfl | (simp[errW_none,errW_some]<;>rfl) | (simp only[← hji34];first | rfl | (simp[errW_none,errW_some]<;>rfl)) | (simp[*,errW_none,errW_some]<;>rfl),(hX HB.out)⟩
     have H':=aM H
     clear H
     try go_wp2
     have nv1:Aside0 ((((wv1.setCell ⟨gbv1,0,none⟩ (.int .i64 ((rd_T63 l0_2 x3_2).f0))).setCell ⟨gbv1,1,none⟩ (.int .i64 ((rd_T63 l0_2 x3_2).f1))).setCell ⟨gbv1,2,none⟩ (.int .i64 ((rd_T63 l0_2 x3_2).f2))).heap[gbz1]? = some (.cells #[.int .i64 a0_0,.int .i64 a0_1,.slice (some adv1) l0_2.length c0_2,.int .i64 a0_3,.slice A0_4 l0_4.length c0_4] 58 (0,0))):=⟨(bF BKz1.out)⟩
     have nv2:Aside0 ((((wv1.setCell ⟨gbv1,0,none⟩ (.int .i64 ((rd_T63 l0_2 x3_2).f0))).setCell ⟨gbv1,1,none⟩ (.int .i64 ((rd_T63 l0_2 x3_2).f1))).setCell ⟨gbv1,2,none⟩ (.int .i64 ((rd_T63 l0_2 x3_2).f2))).heap[gbv1]? = some (.cells #[.int .i64 ((rd_T63 l0_2 x3_2).f0),.int .i64 ((rd_T63 l0_2 x3_2).f1),.int .i64 ((rd_T63 l0_2 x3_2).f2)] 63 (0,0))):=⟨(bP BKv1.out)⟩
     have nv3:Aside0 (Below w.heap.size w (((wv1.setCell ⟨gbv1,0,none⟩ (.int .i64 ((rd_T63 l0_2 x3_2).f0))).setCell ⟨gbv1,1,none⟩ (.int .i64 ((rd_T63 l0_2 x3_2).f1))).setCell ⟨gbv1,2,none⟩ (.int .i64 ((rd_T63 l0_2 x3_2).f2)))):=⟨(hX HB.out)⟩
     (try clear BKz1)
     (try clear BKv1)
     (try clear HB)
     generalize (((wv1.setCell ⟨gbv1,0,none⟩ (.int .i64 ((rd_T63 l0_2 x3_2).f0))).setCell ⟨gbv1,1,none⟩ (.int .i64 ((rd_T63 l0_2 x3_2).f1))).setCell ⟨gbv1,2,none⟩ (.int .i64 ((rd_T63 l0_2 x3_2).f2)))=wv2 at nv1 nv2 nv3 ⊢
     have BKz1:=nv1
     have BKv1:=nv2
     have HB:=nv3
     clear nv1 nv2 nv3
     obtain⟨adv2,ev2,pv2,qv2,hxv4⟩:=at_T63c HR0_2 HB (ji34)
     obtain rfl:adv1=adv2:=(by injection ev2)
     have hcb0_:=cV3 BKv1.out
     have hcb1_:=cV5 BKz1.out
     refine sR0 32 Xg.tab9 Xg.bits9 (fun HT_ HW_ hHeld => ?_)
     refine zA 0 ?_
     refine tA 1 ?_
     refine eD 2 Tryz.func95 (Xb.calls _ _ _ _ _ A27.out) (fun nd hHeld => ?_)
     refine zA 3 ?_
     refine zA 4 ?_
     refine zA 5 ?_
     refine tA 6 ?_
     refine eD 7 Tryz.func95 (Xb.calls _ _ _ _ _ A29.out) (fun nd hHeld => ?_)
     refine zA 8 ?_
     refine zA 9 ?_
     refine zA 10 ?_
     refine zA 11 ?_
     refine tA 12 ?_
     refine eD 13 Tryz.func95 (Xb.calls _ _ _ _ _ A31.out) (fun nd hHeld => ?_)
     refine zA 14 ?_
     refine zA 15 ?_
     refine zA 16 ?_
     refine zA 17 ?_
     refine zA 18 ?_
     refine zA 19 ?_
     refine zA 20 ?_
     refine zA 22 ?_
     refine zA 23 ?_
     refine zA 27 ?_
     refine tA 21 ?_
     refine zA 24 ?_
     refine zA 25 ?_
     refine tA 26 ?_
     refine tA 28 ?_
     refine zA 29 ?_
     refine zA 30 ?_
     refine zA 31 ?_
     refine dA ?_
     try go_wp2
     go_roundg k2
     case measure=>have:=HJy1.out;have:=HKw1.out;omega
     case rel=>exact⟨(wrap64 (x3_2+1)),rS,H',⟨by have:=HJy1.out;have:=HKw1.out;omega⟩,⟨(bX BKz1.out)⟩,⟨(hX HB.out)⟩⟩
def XE.f (a0:Int):Option (Bool):=(Xb.f a0 1 6).bind fun t101=>(some t101)
theorem XE.calls (a0:Int) (r:Bool) (w:World) (H:XE.f a0=some r) :
  Calls Tryz.prog 182 #[.int .i64 a0] w fun e w'=>e = .returned (.bool r)∧Drawn0 w w':=by
 unfold XE.f at H
 replace H:=bE H;obtain⟨t101,A2,H⟩:=H
 obtain rfl:=sI H
 go_enter Tryz.func182,Tryz.ntmps182
 go_wp2_with (refine gD 95 4 Tryz.func95 (Xb.calls _ _ _ _ _ A2.out) ?_;intro nd)
 go_ret
 exact⟨by first | rfl | (simp;done) | (simp[*];done),dX⟩
def Xax.f (a0:Int):Option (Bool):=(Xb.f a0 0 3).bind fun t101=>(some t101)
theorem Xax.calls (a0:Int) (r:Bool) (w:World) (H:Xax.f a0=some r) :
  Calls Tryz.prog 203 #[.int .i64 a0] w fun e w'=>e = .returned (.bool r)∧Drawn0 w w':=by
 unfold Xax.f at H
 replace H:=bE H;obtain⟨t101,A2,H⟩:=H
 obtain rfl:=sI H
 go_enter Tryz.func203,Tryz.ntmps203
 go_wp2_with (refine gD 95 4 Tryz.func95 (Xb.calls _ _ _ _ _ A2.out) ?_;intro nd)
 go_ret
 exact⟨by first | rfl | (simp;done) | (simp[*];done),dX⟩
def XaD.f (a0:Int):Option (Int):=(Xb.f a0 0 2).bind fun t101=>(if t101=true then (some (wrap64 (10+a0))) else (some (-1)))
theorem XaD.calls (a0:Int) (r:Int) (w:World) (H:XaD.f a0=some r) :
  Calls Tryz.prog 164 #[.int .i64 a0] w fun e w'=>e = .returned (.int .i64 r)∧Drawn0 w w':=by
 unfold XaD.f at H
 replace H:=bE H;obtain⟨t101,A2,H⟩:=H
 go_enter Tryz.func164,Tryz.ntmps164
 cases t101
 case true =>
  rw[if_pos rfl] at H
  obtain rfl:=sI H
  go_wp2_with (refine gD 95 4 Tryz.func95 (Xb.calls _ _ _ _ _ A2.out) ?_;intro nd)
  go_ret
  exact⟨by first | rfl | (simp;done) | (simp[*];done),dX⟩
 rw[if_neg nft] at H
 obtain rfl:=sI H
 go_wp2_with (refine gD 95 4 Tryz.func95 (Xb.calls _ _ _ _ _ A2.out) ?_;intro nd)
 go_ret
 exact⟨by first | rfl | (simp;done) | (simp[*];done),dX⟩
def Xas.f (a0:Int):Option (Bool):=(Xb.f a0 1 4).bind fun t101=>(some t101)
theorem Xas.calls (a0:Int) (r:Bool) (w:World) (H:Xas.f a0=some r) :
  Calls Tryz.prog 175 #[.int .i64 a0] w fun e w'=>e = .returned (.bool r)∧Drawn0 w w':=by
 unfold Xas.f at H
 replace H:=bE H;obtain⟨t101,A2,H⟩:=H
 obtain rfl:=sI H
 go_enter Tryz.func175,Tryz.ntmps175
 go_wp2_with (refine gD 95 4 Tryz.func95 (Xb.calls _ _ _ _ _ A2.out) ?_;intro nd)
 go_ret
 exact⟨by first | rfl | (simp;done) | (simp[*];done),dX⟩
end Go.Proofs.YthejoblnfpaojaaGreat.P
