/- A part of the proof of the law FnStarts: texts of this seat, merged (words, printed functions of the program, plain lemmas). Conditions: none of its own. -/
import Derived.Test.YthejoblnfpaojaaGreatPkFnStarts40
import Derived.Test.YthejoblnfpaojaaGreatPkFnStarts41
set_option linter.unusedSimpArgs false
set_option linter.unusedVariables false
set_option maxHeartbeats 8000000
set_option maxRecDepth 100000
namespace Go.Proofs.YthejoblnfpaojaaGreat.P
open Go.Proofs.YthejoblnfpaojaaGreatZ Go.RowKit Go.Proofs.YthejoblnfpaojaaGreatW.PrintWords Go.Proofs.YthejoblnfpaojaaGreatW.PrintLast Go.Proofs.YthejoblnfpaojaaGreatW.PrintMore
attribute [local go_sem] max2_int min2_int max_two min_two max_three min_three max_four min_four   -- for this text's walks alone
def XaA.f (k:Nat) (l0_0:List (S51)) (l0_1:List (S58)) (l0_2:List (S108)) (a0_3:Int) (l0_4:List (S80)) (l0_5:List Int) (l0_6:List Int) (a0_7:Int):Option (Bool):=(XY.f k l0_0 l0_1 l0_2 a0_3 l0_4 l0_5 l0_6 a0_7).bind fun bt102=>(some bt102.2.2)
theorem XaA.calls (k:Nat) (A0_0:Option Addr) (c0_0:Nat) (l0_0:List (S51)) (A0_1:Option Addr) (c0_1:Nat) (l0_1:List (S58)) (A0_2:Option Addr) (c0_2:Nat) (l0_2:List (S108)) (a0_3:Int) (A0_4:Option Addr) (c0_4:Nat) (l0_4:List (S80)) (A0_5:Option Addr) (c0_5:Nat) (l0_5:List Int) (A0_6:Option Addr) (c0_6:Nat) (l0_6:List Int) (a0_7:Int) (r:Bool) (w:World) (h0_0:Rw k51 w A0_0 c0_0 l0_0) (h0_1:Rw k58 w A0_1 c0_1 l0_1) (h0_2:Rw k108 w A0_2 c0_2 l0_2) (h0_4:Rw k80 w A0_4 c0_4 l0_4) (h0_5:Rw (Kd.int .i64) w A0_5 c0_5 l0_5) (h0_6:Rw (Kd.int .i64) w A0_6 c0_6 l0_6) (H:XaA.f k l0_0 l0_1 l0_2 a0_3 l0_4 l0_5 l0_6 a0_7=some r) :
  Calls Tryz.prog 66 #[.agg #[.slice A0_0 l0_0.length c0_0,.slice A0_1 l0_1.length c0_1,.slice A0_2 l0_2.length c0_2,.int .i64 a0_3,.slice A0_4 l0_4.length c0_4,.slice A0_5 l0_5.length c0_5,.slice A0_6 l0_6.length c0_6,.int .i64 a0_7]] w fun e w'=>e = .returned (.bool r)∧Below w.heap.size w w':=by
 have hu37:=Tryz.underlying37
 have hu26:=Tryz.underlying26
 obtain⟨HR0_0,HC0_0⟩:=h0_0
 obtain⟨HR0_1,HC0_1⟩:=h0_1
 obtain⟨HR0_2,HC0_2⟩:=h0_2
 obtain⟨HR0_4,HC0_4⟩:=h0_4
 obtain⟨HR0_5,HC0_5⟩:=h0_5
 obtain⟨HR0_6,HC0_6⟩:=h0_6
 have HB:=aM (Below.refl w.heap.size w)
 unfold XaA.f at H
 replace H:=bE H;obtain⟨⟨t102,t105,t106⟩,A2,H⟩:=H
 try dsimp only at H
 obtain rfl:=sI H
 go_enter Tryz.func66,Tryz.ntmps66
 go_wp2_with (first | (refine boxE 1 #[.slice A0_0 l0_0.length c0_0,.slice A0_1 l0_1.length c0_1,.slice A0_2 l0_2.length c0_2,.int .i64 a0_3,.slice A0_4 l0_4.length c0_4,.slice A0_5 l0_5.length c0_5,.slice A0_6 l0_6.length c0_6,.int .i64 a0_7] 37 ?_;intro gbz1 hg wz1 hbox hb;have BKz1:=aM (hbox);have GWz1:=aG hg HB;replace HB:=aS HB hb;clear hb hbox hg;have hczz1:=cZ8 BKz1.out) | (refine goesM 13 7 Tryz.func13 #[.agg #[.slice A0_0 l0_0.length c0_0,.slice A0_1 l0_1.length c0_1,.slice A0_2 l0_2.length c0_2,.int .i64 a0_3,.slice A0_4 l0_4.length c0_4,.slice A0_5 l0_5.length c0_5,.slice A0_6 l0_6.length c0_6,.int .i64 a0_7]] ?_;refine(XY.calls _ _ _ _ _ _ _ _ _ _ _ _ _ _ _ _ _ _ _ _ _ _ _ _ _ (rW HR0_0 HB HC0_0) (rW HR0_1 HB HC0_1) (rW HR0_2 HB HC0_2) (rW HR0_4 HB HC0_4) (rW HR0_5 HB HC0_5) (rW HR0_6 HB HC0_6) A2.out).mono ?_;rintro e wz2 ⟨vz1,rfl,hoz1,hb⟩;refine⟨_,rfl,?_⟩;have HOz1:=aM (Kd.R_lower hoz1 (below_size (hX HB.out)));replace BKz1:=aB BKz1 hb;replace HB:=aS HB hb;clear hb hoz1) | (refine boxE 3 #[.slice none 0 0,.int .i64 0] 26 ?_;intro gbz2 hg wz3 hbox hb;have BKz2:=aM (hbox);have GWz2:=aG hg HB;have NBz1:=aL hg BKz1;have NBz2:=aR hg BKz1;replace HOz1:=aQ HOz1 hb;replace BKz1:=aB BKz1 hb;replace HB:=aS HB hb;clear hb hbox hg;obtain⟨Aoz1,coz1,eoz1⟩:=Kd.R_slice HOz1.out;subst eoz1;have hnbz1:=nB NBz2 NBz1;have hczz9:=cZ2 BKz2.out))
 go_ret
 exact⟨rE,(hX HB.out)⟩
def XF.f (k:Nat) (l0_0:List (S51)) (l0_1:List (S58)) (l0_2:List (S108)) (a0_3:Int) (l0_4:List (S80)) (l0_5:List Int) (l0_6:List Int) (a0_7:Int):Option (Bool):=(XY.f k l0_0 l0_1 l0_2 a0_3 l0_4 l0_5 l0_6 a0_7).bind fun bt102=>((Xc.f k l0_0 l0_1 l0_2 a0_3 l0_4 l0_5 l0_6 a0_7).bind fun t108=>(if t108=true then ((XW.f k l0_0 l0_1).bind fun t109=>((XK.f k bt102.1 bt102.2.1).bind fun t112=>((slices_Equal_int_int.f k t109 t112).bind fun t115=>(some t115)))) else (some false)))
def XF.T2:Bool × List (List Nat × List Nat):=(true,[([],[]),([0],[0]),([1,1],[1]),([2],[2]),([3,2],[2,3]),([4,2],[2,4]),([2],[2]),([6,2],[2,6]),([7,2],[2,7]),([5,8,2,2],[2,5,8]),([2],[2]),([10,9,2],[2,10]),([9,11,11,2],[2,9,11]),([2,12],[2,12]),([13,12,0,1,2,3,4,5,6,7,8,9,10,11,12,13],[13])])
def XF.B2:List Nat:=[0,1,3,7,15,31,7,71,199,511,7,2047,4095,8191,16383]
theorem XF.tab2:rtab .any (opsOf Tryz.f67 2)=XF.T2:=by kernel_rfl
theorem XF.bits2:waitsOk XF.T2.2 XF.B2=true:=by kernel_rfl
theorem XF.calls (k:Nat) (A0_0:Option Addr) (c0_0:Nat) (l0_0:List (S51)) (A0_1:Option Addr) (c0_1:Nat) (l0_1:List (S58)) (A0_2:Option Addr) (c0_2:Nat) (l0_2:List (S108)) (a0_3:Int) (A0_4:Option Addr) (c0_4:Nat) (l0_4:List (S80)) (A0_5:Option Addr) (c0_5:Nat) (l0_5:List Int) (A0_6:Option Addr) (c0_6:Nat) (l0_6:List Int) (a0_7:Int) (r:Bool) (w:World) (h0_0:Rw k51 w A0_0 c0_0 l0_0) (h0_1:Rw k58 w A0_1 c0_1 l0_1) (h0_2:Rw k108 w A0_2 c0_2 l0_2) (h0_4:Rw k80 w A0_4 c0_4 l0_4) (h0_5:Rw (Kd.int .i64) w A0_5 c0_5 l0_5) (h0_6:Rw (Kd.int .i64) w A0_6 c0_6 l0_6) (h:XF.f k l0_0 l0_1 l0_2 a0_3 l0_4 l0_5 l0_6 a0_7=some r) :
  Calls Tryz.prog 67 #[.agg #[.slice A0_0 l0_0.length c0_0,.slice A0_1 l0_1.length c0_1,.slice A0_2 l0_2.length c0_2,.int .i64 a0_3,.slice A0_4 l0_4.length c0_4,.slice A0_5 l0_5.length c0_5,.slice A0_6 l0_6.length c0_6,.int .i64 a0_7]] w fun e w'=>e = .returned (.bool r)∧Below w.heap.size w w':=by
 have hu37:=Tryz.underlying37
 have hu26:=Tryz.underlying26
 obtain⟨HR0_0,HC0_0⟩:=h0_0
 obtain⟨HR0_1,HC0_1⟩:=h0_1
 obtain⟨HR0_2,HC0_2⟩:=h0_2
 obtain⟨HR0_4,HC0_4⟩:=h0_4
 obtain⟨HR0_5,HC0_5⟩:=h0_5
 obtain⟨HR0_6,HC0_6⟩:=h0_6
 have HB:=aM (Below.refl w.heap.size w)
 have H:=h
 unfold XF.f at H
 clear h
 replace H:=bE H;obtain⟨⟨t102,t105,t106⟩,A2,H⟩:=H
 try dsimp only at H
 replace H:=bE H;obtain⟨t108,A3,H⟩:=H
 go_enter Tryz.func67,Tryz.ntmps67
 go_wp2_with (first | (refine boxE 1 #[.slice A0_0 l0_0.length c0_0,.slice A0_1 l0_1.length c0_1,.slice A0_2 l0_2.length c0_2,.int .i64 a0_3,.slice A0_4 l0_4.length c0_4,.slice A0_5 l0_5.length c0_5,.slice A0_6 l0_6.length c0_6,.int .i64 a0_7] 37 ?_;intro gbz1 hg wz1 hbox hb;have BKz1:=aM (hbox);have GWz1:=aG hg HB;replace HB:=aS HB hb;clear hb hbox hg;have hczz1:=cZ8 BKz1.out) | (refine goesM 13 7 Tryz.func13 #[.agg #[.slice A0_0 l0_0.length c0_0,.slice A0_1 l0_1.length c0_1,.slice A0_2 l0_2.length c0_2,.int .i64 a0_3,.slice A0_4 l0_4.length c0_4,.slice A0_5 l0_5.length c0_5,.slice A0_6 l0_6.length c0_6,.int .i64 a0_7]] ?_;refine(XY.calls _ _ _ _ _ _ _ _ _ _ _ _ _ _ _ _ _ _ _ _ _ _ _ _ _ (rW HR0_0 HB HC0_0) (rW HR0_1 HB HC0_1) (rW HR0_2 HB HC0_2) (rW HR0_4 HB HC0_4) (rW HR0_5 HB HC0_5) (rW HR0_6 HB HC0_6) A2.out).mono ?_;rintro e wz2 ⟨vz1,rfl,hoz1,hb⟩;refine⟨_,rfl,?_⟩;have HOz1:=aM (Kd.R_lower hoz1 (below_size (hX HB.out)));replace BKz1:=aB BKz1 hb;replace HB:=aS HB hb;clear hb hoz1) | (refine boxE 3 #[.slice none 0 0,.int .i64 0] 26 ?_;intro gbz2 hg wz3 hbox hb;have BKz2:=aM (hbox);have GWz2:=aG hg HB;have NBz1:=aL hg BKz1;have NBz2:=aR hg BKz1;replace HOz1:=aQ HOz1 hb;replace BKz1:=aB BKz1 hb;replace HB:=aS HB hb;clear hb hbox hg;obtain⟨Aoz1,coz1,eoz1⟩:=Kd.R_slice HOz1.out;subst eoz1;have hnbz1:=nB NBz2 NBz1;have hczz9:=cZ2 BKz2.out;refine Stop.out ?_))
 refine⟨?_⟩
 cases t108
 case false =>
  rw[if_neg nft] at H
  obtain rfl:=sI H
  try go_wp2
  have nz1:Aside0 (Kd.R (Kd.int .i64) 3 ((wz3.setCell ⟨gbz2,0,none⟩ (.slice Aoz1 t102.length coz1)).setCell ⟨gbz2,1,none⟩ (.int .i64 t105)) w.heap.size (fun _=>True) (.slice Aoz1 t102.length coz1) t102):=⟨(Kd.R_mono (rF HOz1.out BKz2.out) (fun _ hk=>trivial))⟩
  have nz2:Aside0 (((wz3.setCell ⟨gbz2,0,none⟩ (.slice Aoz1 t102.length coz1)).setCell ⟨gbz2,1,none⟩ (.int .i64 t105)).heap[gbz1]? = some (.cells #[.slice A0_0 l0_0.length c0_0,.slice A0_1 l0_1.length c0_1,.slice A0_2 l0_2.length c0_2,.int .i64 a0_3,.slice A0_4 l0_4.length c0_4,.slice A0_5 l0_5.length c0_5,.slice A0_6 l0_6.length c0_6,.int .i64 a0_7] 37 (0,0))):=⟨(bF BKz1.out)⟩
  have nz3:Aside0 (((wz3.setCell ⟨gbz2,0,none⟩ (.slice Aoz1 t102.length coz1)).setCell ⟨gbz2,1,none⟩ (.int .i64 t105)).heap[gbz2]? = some (.cells #[.slice Aoz1 t102.length coz1,.int .i64 t105] 26 (0,0))):=⟨(bP BKz2.out)⟩
  have nz4:Aside0 (Below w.heap.size w ((wz3.setCell ⟨gbz2,0,none⟩ (.slice Aoz1 t102.length coz1)).setCell ⟨gbz2,1,none⟩ (.int .i64 t105))):=⟨(hX HB.out)⟩
  (try clear HOz1)
  (try clear BKz1)
  (try clear BKz2)
  (try clear HB)
  generalize ((wz3.setCell ⟨gbz2,0,none⟩ (.slice Aoz1 t102.length coz1)).setCell ⟨gbz2,1,none⟩ (.int .i64 t105))=wz4 at nz1 nz2 nz3 nz4 ⊢
  have HOz1:=nz1
  have BKz1:=nz2
  have BKz2:=nz3
  have HB:=nz4
  clear nz1 nz2 nz3 nz4
  replace HOz1:=aM (Kd.R_drew HOz1.out)
  have hcb0_:=cV8 BKz1.out
  refine sR0 15 XF.tab2 XF.bits2 (fun HT_ HW_ hHeld => ?_)
  refine tA 0 ?_
  refine eB 1 Tryz.func14 (Xc.calls k _ _ l0_0 _ _ l0_1 _ _ l0_2 a0_3 _ _ l0_4 _ _ l0_5 _ _ l0_6 a0_7 false _ (rW HR0_0 HB HC0_0) (rW HR0_1 HB HC0_1) (rW HR0_2 HB HC0_2) (rW HR0_4 HB HC0_4) (rW HR0_5 HB HC0_5) (rW HR0_6 HB HC0_6) A3.out) (fun wz6 hb hHeld => ?_)
  replace HOz1:=aQ HOz1 hb
  replace BKz1:=aB BKz1 hb
  replace BKz2:=aB BKz2 hb
  replace HB:=aS HB hb
  (try clear hb)
  (try clear hk)
  refine zA 2 ?_
  refine uA 3 ?_
  refine uA 4 ?_
  refine uA 5 ?_
  refine uA 6 ?_
  refine uA 7 ?_
  refine uA 8 ?_
  refine uA 9 ?_
  refine uA 10 ?_
  refine uA 11 ?_
  refine uA 12 ?_
  refine zA 13 ?_
  refine zA 14 ?_
  refine dA ?_
  try go_wp2
  go_ret
  exact⟨rE,(hX HB.out)⟩
 rw[if_pos rfl] at H
 replace H:=bE H;obtain⟨t109,A5,H⟩:=H
 replace H:=bE H;obtain⟨t112,A6,H⟩:=H
 replace H:=bE H;obtain⟨t115,A7,H⟩:=H
 obtain rfl:=sI H
 try go_wp2
 have nz1:Aside0 (Kd.R (Kd.int .i64) 3 ((wz3.setCell ⟨gbz2,0,none⟩ (.slice Aoz1 t102.length coz1)).setCell ⟨gbz2,1,none⟩ (.int .i64 t105)) w.heap.size (fun _=>True) (.slice Aoz1 t102.length coz1) t102):=⟨(Kd.R_mono (rF HOz1.out BKz2.out) (fun _ hk=>trivial))⟩
 have nz2:Aside0 (((wz3.setCell ⟨gbz2,0,none⟩ (.slice Aoz1 t102.length coz1)).setCell ⟨gbz2,1,none⟩ (.int .i64 t105)).heap[gbz1]? = some (.cells #[.slice A0_0 l0_0.length c0_0,.slice A0_1 l0_1.length c0_1,.slice A0_2 l0_2.length c0_2,.int .i64 a0_3,.slice A0_4 l0_4.length c0_4,.slice A0_5 l0_5.length c0_5,.slice A0_6 l0_6.length c0_6,.int .i64 a0_7] 37 (0,0))):=⟨(bF BKz1.out)⟩
 have nz3:Aside0 (((wz3.setCell ⟨gbz2,0,none⟩ (.slice Aoz1 t102.length coz1)).setCell ⟨gbz2,1,none⟩ (.int .i64 t105)).heap[gbz2]? = some (.cells #[.slice Aoz1 t102.length coz1,.int .i64 t105] 26 (0,0))):=⟨(bP BKz2.out)⟩
 have nz4:Aside0 (Below w.heap.size w ((wz3.setCell ⟨gbz2,0,none⟩ (.slice Aoz1 t102.length coz1)).setCell ⟨gbz2,1,none⟩ (.int .i64 t105))):=⟨(hX HB.out)⟩
 (try clear HOz1)
 (try clear BKz1)
 (try clear BKz2)
 (try clear HB)
 generalize ((wz3.setCell ⟨gbz2,0,none⟩ (.slice Aoz1 t102.length coz1)).setCell ⟨gbz2,1,none⟩ (.int .i64 t105))=wz4 at nz1 nz2 nz3 nz4 ⊢
 have HOz1:=nz1
 have BKz1:=nz2
 have BKz2:=nz3
 have HB:=nz4
 clear nz1 nz2 nz3 nz4
 replace HOz1:=aM (Kd.R_drew HOz1.out)
 have hcb0_:=cV8 BKz1.out
 have hcb1_:=cV2 BKz2.out
 refine sR0 15 XF.tab2 XF.bits2 (fun HT_ HW_ hHeld => ?_)
 refine tA 0 ?_
 refine eB 1 Tryz.func14 (Xc.calls k _ _ l0_0 _ _ l0_1 _ _ l0_2 a0_3 _ _ l0_4 _ _ l0_5 _ _ l0_6 a0_7 true _ (rW HR0_0 HB HC0_0) (rW HR0_1 HB HC0_1) (rW HR0_2 HB HC0_2) (rW HR0_4 HB HC0_4) (rW HR0_5 HB HC0_5) (rW HR0_6 HB HC0_6) A3.out) (fun wz6 hb hHeld => ?_)
 replace HOz1:=aQ HOz1 hb
 replace BKz1:=aB BKz1 hb
 replace BKz2:=aB BKz2 hb
 replace HB:=aS HB hb
 (try clear hb)
 (try clear hk)
 refine zA 2 ?_
 refine zA 3 ?_
 refine zA 4 ?_
 refine zA 6 ?_
 refine zA 7 ?_
 refine tA 5 ?_
 refine tA 8 ?_
 refine tA 10 ?_
 refine oA 9 (fun K hK => ?_)
 refine goesN Tryz.func37 #[.slice A0_0 l0_0.length c0_0,.slice A0_1 l0_1.length c0_1] ?_
 refine(XW.calls k _ _ l0_0 _ _ l0_1 t109 _ (rW HR0_0 HB HC0_0) (rW HR0_1 HB HC0_1) A5.out).mono ?_
 rintro e wz7 ⟨vz2,rfl,hoz1,hb⟩
 have hS_:=below_step hHeld hb
 refine⟨_,rfl,?_⟩
 have HOz2:=aM (Kd.R_lower (Kd.R_new' hoz1 (Kd.R_lt (rX HOz1.out))) (below_size (hX HB.out)))
 replace HOz1:=aM (Kd.R_elder' (rX HOz1.out) (Kd.R_base hoz1) hb)
 replace BKz1:=aB BKz1 hb
 replace BKz2:=aB BKz2 hb
 replace HB:=aS HB hb
 (try clear hb)
 (try clear hk)
 (try clear hoz1)
 refine hK.out _ _ hS_ (fun hHeld => ?_)
 clear hK K hS_
 refine nZ 19 ?_
 refine oA 11 (fun K hK => ?_)
 refine goesN Tryz.func41 #[.agg #[.slice Aoz1 t102.length coz1,.int .i64 t105]] ?_
 refine(XK.calls k _ _ t102 t105 t112 _ (rw2 (rD HOz1.out) (rL HOz1.out)) A6.out).mono ?_
 rintro e wz8 ⟨vz3,rfl,hoz1,hb⟩
 have hS_:=below_step hHeld hb
 refine⟨_,rfl,?_⟩
 have HOz3:=aM (Kd.R_lower (Kd.R_new' (Kd.R_new' hoz1 (Kd.R_lt (rX HOz1.out))) (Kd.R_lt (rX HOz2.out))) (below_size (hX HB.out)))
 replace HOz1:=aM (Kd.R_elder' (rX HOz1.out) (Kd.R_base hoz1) hb)
 replace HOz2:=aM (Kd.R_elder' (rX HOz2.out) (Kd.R_base hoz1) hb)
 replace BKz1:=aB BKz1 hb
 replace BKz2:=aB BKz2 hb
 replace HB:=aS HB hb
 (try clear hb)
 (try clear hk)
 (try clear hoz1)
 obtain⟨Aoz2,coz2,eoz2⟩:=Kd.R_slice HOz2.out
 (first | subst eoz2 | (injection eoz2 with f1_ f2_ f3_;have fz1:=f1_.symm;have fz2:=f3_.symm;clear f1_ f2_ f3_;subst fz1;subst fz2))
 obtain⟨Aoz3,coz3,eoz3⟩:=Kd.R_slice HOz3.out
 (first | subst eoz3 | (injection eoz3 with f1_ f2_ f3_;have fz1:=f1_.symm;have fz2:=f3_.symm;clear f1_ f2_ f3_;subst fz1;subst fz2))
 refine hK.out _ _ hS_ (fun hHeld => ?_)
 clear hK K hS_
 refine nZ 21 ?_
 refine eD 12 Tryz.func135 (slices_Equal_int_int.calls k _ _ t109 _ _ t112 t115 _ (by repeat (first | exact(Kd.R_reads' HOz2.out).2.2 | (with_reducible refine Kd.C_alloc ?_ _) | (with_reducible refine Kd.C_drewN ?_ _) | (with_reducible refine Kd.C_drew ?_))) (by exact(Kd.R_reads' HOz2.out).2.1) (by repeat (first | exact(Kd.R_reads' HOz3.out).2.2 | (with_reducible refine Kd.C_alloc ?_ _) | (with_reducible refine Kd.C_drewN ?_ _) | (with_reducible refine Kd.C_drew ?_))) (by exact(Kd.R_reads' HOz3.out).2.1) A7.out) (fun nd hHeld => ?_)
 refine zA 13 ?_
 refine zA 14 ?_
 refine dA ?_
 try go_wp2
 go_ret
 exact⟨rE,(hX HB.out)⟩
end Go.Proofs.YthejoblnfpaojaaGreat.P
namespace Go.Proofs.YthejoblnfpaojaaGreat.P
open Go.RowKit Go.Proofs.YthejoblnfpaojaaGreatW.PrintWords Go.Proofs.YthejoblnfpaojaaGreatW.PrintLast Go.Proofs.YthejoblnfpaojaaGreatZ
abbrev mC:=S80
def callP (n:Int) (tm:Int) (x:mC):Prop:=(0≤x.f0∧x.f0≤n - 1)∧opP x.f1∧(0≤x.f2∧x.f2≤tm)∧(x.f3 = -1 ∨ (x.f2≤x.f3∧x.f3≤tm))∧(x.f4 = -1 ∨ (x.f2≤x.f4∧x.f4≤tm))
theorem Xbb (w:List mW) (d:List mD) (t:List mT) (tm:Int) (c:List mC) (p q:List Int) (s:Int) (x:mC) (ht:t.length≤1048576) :
  EvB (fun k=>XaC.f k w d t tm c p q s x.f0 x.f1.f0 x.f1.f1 x.f1.f2 x.f2 x.f3 x.f4 x.f5.f0 x.f5.f1) (callP t.length tm x):=by
 have hww:wrap64 ((t.length:Int) - 1)=(t.length:Int) - 1:=w64 (by omega) (by omega)
 simp only[XaC.f,specIn_eq,Option.bind_some,decide_eq_true_eq,hww]
 refine EvB.ite (fun h1 => ?_) (fun h1=>EvB.no (Ev.now _) (fun p=>h1 p.1))
 refine EvB.at (XaU _ _ _) ?_
 refine EvB.ite (fun h2 => ?_) (fun h2=>EvB.no (Ev.now _) (fun p=>h2 p.2.1))
 refine EvB.ite (fun h3 => ?_) (fun h3=>EvB.no (Ev.now _) (fun p=>h3 p.2.2.1))
 refine EvB.ite (fun h4=>EvB.ite (fun h5=>EvB.yes (Ev.now _) ⟨h1,h2,h3,.inl h4,.inl h5⟩) (fun h5=>EvB.now ?_)) (fun h4=>EvB.ite (fun h5=>EvB.ite (fun h6=>EvB.yes (Ev.now _) ⟨h1,h2,h3,.inr h5,.inl h6⟩) (fun h6=>EvB.now ?_)) (fun h5=>EvB.no (Ev.now _) (fun p=>p.2.2.2.1.elim h4 h5)))
 ·rw[decide_eq_true_iff]
  exact⟨fun a=>⟨h1,h2,h3,.inl h4,.inr a⟩,fun a=>a.2.2.2.2.elim (fun b=>absurd b h5) id⟩
 ·rw[decide_eq_true_iff]
  exact⟨fun a=>⟨h1,h2,h3,.inr h5,.inr a⟩,fun a=>a.2.2.2.2.elim (fun b=>absurd b h6) id⟩
def cntC (R:mC→Bool) (c:List mC):Nat→Nat
 | 0=>0
 | i+1=>cntC R c i+(if R (rd_T80 c (i:Int))=true then 1 else 0)
theorem cntC_le (R:mC→Bool) (c:List mC):∀ i,cntC R c i≤i
 | 0=>Nat.le_refl _
 | i+1=>by
  have:=cntC_le R c i
  simp only[cntC]
  split<;>omega
def soC (x:mC):Bool:=decide (x.f3 ≥ 0)
def ordP (c:List mC) (o:List Int) (i:Nat):Prop:=(0≤rd o (i:Int)∧rd o (i:Int)≤(c.length:Int) - 1)∧¬ (rd_T80 c (rd o (i:Int))).f3<0∧¬ dup o i∧(0<i→¬ (rd_T80 c (rd o ((i:Int) - 1))).f3 > (rd_T80 c (rd o (i:Int))).f3)
def ordersP (c:List mC) (o:List Int):Prop:=(∀ i,i<o.length→ordP c o i)∧cntC soC c c.length=o.length
theorem Xa2 (w:List mW) (d:List mD) (t:List mT) (tm:Int) (c:List mC) (o q:List Int) (s:Int) (x3:Int) (i:Nat) (hi:i<o.length) (ho:o.length≤1048576) (r:Bool)
  (h:¬ dup o i→Ev (fun k=>Xa.l1 k x3 ((i+1:Nat):Int) w d t tm c o q s) r) (h':dup o i→r=false):Ev (fun k=>Xa.l2 k x3 (i:Int) (rd o (i:Int)) 0 w d t tm c o q s) r:=by
 have key:∀ m j,j+m=i→(∀ a,a<j→rd o (a:Int) ≠ rd o (i:Int))→Ev (fun k=>Xa.l2 k x3 (i:Int) (rd o (i:Int)) (j:Int) w d t tm c o q s) r:=by
  intro m
  induction m with
  | zero =>
   intro j hj hp
   obtain rfl:j=i:=by omega
   refine Ev.shift ?_
   simp only[Xa.l2,Int.lt_irrefl,if_false,succ64 hi (by omega)]
   exact h fun⟨a,ha,e⟩=>hp a ha e
  | succ m ih =>
   intro j hj hp
   have c0:(0:Int)≤(j:Int):=by omega
   have c1:(j:Int)<(i:Int):=by omega
   have c2:(j:Int)<(o.length:Int):=by omega
   refine Ev.shift ?_
   simp only[Xa.l2,c0,c1,c2,if_true,succ64 (show j<o.length by omega) (by omega)]
   by_cases e:rd o (j:Int)=rd o (i:Int)
   ·exact Ev.pos e (Ev.val (h' ⟨j,by omega,e⟩).symm)
   ·refine Ev.neg e (ih (j+1) (by omega) (fun a ha => ?_))
    rcases Nat.lt_succ_iff_lt_or_eq.mp ha with b | b
    ·exact hp a b
    ·rw[b];exact e
 exact key i 0 (by omega) (fun a ha=>absurd ha (Nat.not_lt_zero _))
theorem Xbn (w:List mW) (d:List mD) (t:List mT) (tm:Int) (c:List mC) (o q:List Int) (s:Int) (ho:o.length≤1048576) (hc:c.length≤1048576) (z:Nat) :
  EvB (fun k=>Xa.l1 k (z:Int) 0 w d t tm c o q s) ((∀ i,i<o.length→ordP c o i)∧c.length≤40∧z=o.length):=by
 have hww:wrap64 ((c.length:Int) - 1)=(c.length:Int) - 1:=w64 (by omega) (by omega)
 refine EvB.loop (n:=o.length) (P:=ordP c o) (g:=fun i k=>Xa.l1 k (z:Int) (i:Int) w d t tm c o q s) (fun _ => ?_) (fun i hi hp hn => ?_) (fun i hi hp hr r h => ?_)
 ·refine EvB.shift ?_
  simp only[Xa.l1,Int.lt_irrefl,if_false]
  refine EvB.ite (fun h1=>EvB.now ?_) (fun h1=>EvB.no (Ev.now _) (fun p=>absurd p.1 (by omega)))
  rw[beq_iff_eq];omega
 ·have c0:(0:Int)≤(i:Int):=by omega
  have c1:(i:Int)<(o.length:Int):=by omega
  refine Ev.shift ?_
  simp only[Xa.l1,c0,c1,if_true,specIn_eq,Option.bind_some,decide_eq_true_eq,hww]
  have bad:Ev (fun k=>Xa.j2 k (z:Int) (i:Int) (rd o (i:Int)) true w d t tm c o q s) false:=Ev.shift (by simp only[Xa.j2,if_true];exact Ev.now _)
  by_cases h1:0≤rd o (i:Int)∧rd o (i:Int)≤(c.length:Int) - 1
  ·refine Ev.pos h1 (Ev.pos h1.1 (Ev.pos (by omega) ?_))
   by_cases h2:(rd_T80 c (rd o (i:Int))).f3<0
   ·exact Ev.pos h2 bad
   ·refine Ev.neg h2 ?_
    have go:(0<i→¬ (rd_T80 c (rd o ((i:Int) - 1))).f3 > (rd_T80 c (rd o (i:Int))).f3)→Ev (fun k=>Xa.j2 k (z:Int) (i:Int) (rd o (i:Int)) false w d t tm c o q s) false:=fun h4=>by
     refine Ev.shift ?_
     simp only[Xa.j2,Bool.false_eq_true,if_false]
     exact Xa2 w d t tm c o q s z i hi ho false (fun h3=>absurd ⟨h1,h2,h3,h4⟩ hn) (fun _=>rfl)
    by_cases h5:(i:Int) > 0
    ·have e1:wrap64 ((i:Int) - 1)=(i:Int) - 1:=w64 (by omega) (by omega)
     have e2:(0:Int)≤(i:Int) - 1:=by omega
     have e3:(i:Int) - 1<(o.length:Int):=by omega
     have e4:=(hp (i - 1) (by omega)).1
     rw[show ((i - 1:Nat):Int)=(i:Int) - 1 by omega] at e4
     refine Ev.pos h5 ?_
     simp only[e1]
     refine Ev.pos e2 (Ev.pos e3 (Ev.pos e4.1 (Ev.pos (by omega) ?_)))
     by_cases h6:(rd_T80 c (rd o ((i:Int) - 1))).f3 > (rd_T80 c (rd o (i:Int))).f3
     ·simp only[h6,decide_true]
      exact bad
     ·simp only[h6,decide_false]
      exact go fun _=>h6
    ·exact Ev.neg h5 (go fun a=>absurd a (by omega))
  ·exact Ev.neg h1 bad
 ·have c0:(0:Int)≤(i:Int):=by omega
  have c1:(i:Int)<(o.length:Int):=by omega
  obtain⟨h1,h2,h3,h4⟩:=hr
  refine Ev.shift ?_
  simp only[Xa.l1,c0,c1,if_true,specIn_eq,Option.bind_some,decide_eq_true_eq,hww]
  have go:Ev (fun k=>Xa.j2 k (z:Int) (i:Int) (rd o (i:Int)) false w d t tm c o q s) r:=by
   refine Ev.shift ?_
   simp only[Xa.j2,Bool.false_eq_true,if_false]
   exact Xa2 w d t tm c o q s z i hi ho r (fun _=>h) (fun a=>absurd a h3)
  refine Ev.pos h1 (Ev.pos h1.1 (Ev.pos (by omega) (Ev.neg h2 ?_)))
  by_cases h5:(i:Int) > 0
  ·have e1:wrap64 ((i:Int) - 1)=(i:Int) - 1:=w64 (by omega) (by omega)
   have e2:(0:Int)≤(i:Int) - 1:=by omega
   have e3:(i:Int) - 1<(o.length:Int):=by omega
   have e4:=(hp (i - 1) (by omega)).1
   rw[show ((i - 1:Nat):Int)=(i:Int) - 1 by omega] at e4
   have h6:=h4 (by omega)
   refine Ev.pos h5 ?_
   simp only[e1,h6,decide_false]
   exact Ev.pos e2 (Ev.pos e3 (Ev.pos e4.1 (Ev.pos (by omega) go)))
  ·exact Ev.neg h5 go
theorem Xbi (w:List mW) (d:List mD) (t:List mT) (tm:Int) (c:List mC) (o q:List Int) (s:Int) (ht:t.length≤1048576) (hc:c.length≤1048576) (ho:o.length≤1048576) :
  EvB (fun k=>Xa.f k w d t tm c o q s) ((∀ x ∈ c,callP t.length tm x)∧c.length≤40∧ordersP c o):=by
 simp only[Xa.f]
 refine(EvB.each c (R:=fun _ x=>callP t.length tm x) (Q:=(∀ i,i<o.length→ordP c o i)∧c.length≤40∧cntC soC c c.length=o.length) (g:=fun i k=>Xa.l0 k (cntC soC c i:Int) (i:Int) w d t tm c o q s) (fun _ => ?_) (fun i x hx hi hp hn => ?_) (fun i x hx hi hp hr r h => ?_)).iff ?_
 ·refine EvB.shift ?_
  simp only[Xa.l0,Int.lt_irrefl,if_false]
  exact Xbn w d t tm c o q s ho hc _
 ·have c0:(0:Int)≤(i:Int):=by omega
  have c1:(i:Int)<(c.length:Int):=by omega
  have er:rd_T80 c (i:Int)=x:=getD_get hx
  refine Ev.shift ?_
  simp only[Xa.l0,c0,c1,if_true,er]
  exact Ev.bind ((Xbb w d t tm c o q s x ht).nval hn) (Ev.neg (by decide) (Ev.now _))
 ·have c0:(0:Int)≤(i:Int):=by omega
  have c1:(i:Int)<(c.length:Int):=by omega
  have er:rd_T80 c (i:Int)=x:=getD_get hx
  have hle:=cntC_le soC c i
  refine Ev.shift ?_
  simp only[Xa.l0,c0,c1,if_true,er]
  refine Ev.bind ((Xbb w d t tm c o q s x ht).val hr) (Ev.pos rfl ?_)
  simp only[cntC,er] at h
  by_cases h5:x.f3 ≥ 0
  ·have e1:wrap64 ((cntC soC c i:Int)+1)=((cntC soC c i+1:Nat):Int):=by rw[w64 (by omega) (by omega)];omega
   have e2:soC x=true:=by unfold soC;rw[decide_eq_true_iff];exact h5
   simp only[e2,if_true] at h
   simp only[h5,decide_true,Xag.f,if_true,Option.bind_some,e1,succ64 hi (by omega)]
   exact h
  ·have e1:wrap64 ((cntC soC c i:Int)+0)=((cntC soC c i:Nat):Int):=by rw[w64 (by omega) (by omega)];omega
   have e2:¬ soC x=true:=by unfold soC;rw[decide_eq_true_iff];exact h5
   simp only[e2,if_false,Nat.add_zero] at h
   simp only[h5,decide_false,Xag.f,if_false,Bool.false_eq_true,Option.bind_some,e1,succ64 hi (by omega)]
   exact h
 ·rw[each_mem]
  exact⟨fun p=>⟨p.1,p.2.2.1,p.2.1,p.2.2.2⟩,fun p=>⟨p.1,p.2.2.1,p.2.1,p.2.2.2⟩⟩
theorem contains_ev (x:List Int) (hl:x.length≤1048576) (v:Int):EvB (fun k=>slices_Contains_int_int.f k x v) (∃ j:Nat,j<x.length∧rd x (j:Int)=v):=by
 obtain⟨r,q1,q2,q3⟩:=first_ev x (fun y=>y=v) (g:=fun i k=>slices_Index_int_int.l0 k x v (x.length:Int) (i:Int)) (by
  refine Ev.shift ?_
  simp only[slices_Index_int_int.l0,Int.lt_irrefl,if_false]
  exact Ev.now _) (fun i y hx hi hn=>by
  have c0:(0:Int)≤(i:Int):=by omega
  have c1:(i:Int)<(x.length:Int):=by omega
  have er:rd x (i:Int)=y:=rd_get hx
  refine Ev.shift ?_
  simp only[slices_Index_int_int.l0,c0,c1,if_true,er]
  exact Ev.pos hn.symm (Ev.now _)) (fun i y hx hi hn r h=>by
  have c0:(0:Int)≤(i:Int):=by omega
  have c1:(i:Int)<(x.length:Int):=by omega
  have er:rd x (i:Int)=y:=rd_get hx
  refine Ev.shift ?_
  simp only[slices_Index_int_int.l0,c0,c1,if_true,er,succ64 hi (by omega)]
  exact Ev.neg (fun a=>hn a.symm) h)
 refine⟨decide (r ≥ 0),?_,?_⟩
 ·simp only[slices_Contains_int_int.f,slices_Index_int_int.f]
  exact Ev.bind q1 (Ev.now _)
 ·rw[decide_eq_true_iff,q3]
  constructor
  ·rintro⟨y,hy,rfl⟩
   obtain⟨j,hj,e⟩:=List.mem_iff_getElem.mp hy
   exact⟨j,hj,by rw[← e];exact rd_get (List.getElem?_eq_getElem hj)⟩
  ·rintro⟨j,hj,e⟩
   refine⟨v,?_,rfl⟩
   rw[← e,show rd x (j:Int)=x[j] from rd_get (List.getElem?_eq_getElem hj)]
   exact List.getElem_mem hj
theorem dup_take {o:List Int} {i:Nat} (hi:i<o.length):(∃ j:Nat,j<(o.take i).length∧rd (o.take i) (j:Int)=rd o (i:Int)) ↔ dup o i:=by
 have hl:(o.take i).length=i:=by rw[List.length_take];omega
 rw[hl]
 constructor
 ·rintro⟨j,hj,e⟩
  exact⟨j,hj,by rw[← rd_take o hj (by omega)];exact e⟩
 ·rintro⟨j,hj,e⟩
  exact⟨j,hj,by rw[rd_take o hj (by omega)];exact e⟩
theorem Xbo (w:List mW) (d:List mD) (t:List mT) (tm:Int) (c:List mC) (o q:List Int) (s:Int) (ho:o.length≤1048576) (hc:c.length≤1048576) (z:Nat) :
  EvB (fun k=>Xf.l1 k (z:Int) o (o.length:Int) 0 w d t tm c o q s) ((∀ i,i<o.length→ordP c o i)∧z=o.length):=by
 have hww:wrap64 ((c.length:Int) - 1)=(c.length:Int) - 1:=w64 (by omega) (by omega)
 refine EvB.loop (n:=o.length) (P:=ordP c o) (g:=fun i k=>Xf.l1 k (z:Int) o (o.length:Int) (i:Int) w d t tm c o q s) (fun _ => ?_) (fun i hi hp hn => ?_) (fun i hi hp hr r h => ?_)
 ·refine EvB.shift ?_
  simp only[Xf.l1,Int.lt_irrefl,if_false]
  refine EvB.now ?_
  rw[beq_iff_eq];omega
 ·have c0:(0:Int)≤(i:Int):=by omega
  have c1:(i:Int)<(o.length:Int):=by omega
  have c2:(i:Int)≤(o.length:Int):=by omega
  refine Ev.shift ?_
  simp only[Xf.l1,c0,c1,c2,if_true,implFrom_eq,Option.bind_some,decide_eq_true_eq,hww,Int.toNat_natCast]
  by_cases h1:0≤rd o (i:Int)∧rd o (i:Int)≤(c.length:Int) - 1
  ·refine Ev.pos h1 (Ev.pos h1.1 (Ev.pos (by omega) ?_))
   by_cases h2:(rd_T80 c (rd o (i:Int))).f3<0
   ·exact Ev.pos h2 (Ev.now _)
   ·refine Ev.neg h2 ?_
    refine EvB.then_ (contains_ev (o.take i) (by rw[List.length_take];omega) (rd o (i:Int))) (fun h3=>Ev.pos rfl (Ev.now _)) (fun h3=>Ev.neg (by decide) ?_)
    rw[dup_take hi] at h3
    by_cases h5:(i:Int) > 0
    ·have e1:wrap64 ((i:Int) - 1)=(i:Int) - 1:=w64 (by omega) (by omega)
     have e2:(0:Int)≤(i:Int) - 1:=by omega
     have e3:(i:Int) - 1<(o.length:Int):=by omega
     have e4:=(hp (i - 1) (by omega)).1
     rw[show ((i - 1:Nat):Int)=(i:Int) - 1 by omega] at e4
     refine Ev.pos h5 ?_
     simp only[e1]
     refine Ev.pos e2 (Ev.pos e3 (Ev.pos e4.1 (Ev.pos (by omega) ?_)))
     by_cases h6:(rd_T80 c (rd o ((i:Int) - 1))).f3 > (rd_T80 c (rd o (i:Int))).f3
     ·exact Ev.pos h6 (Ev.now _)
     ·exact absurd ⟨h1,h2,h3,fun _=>h6⟩ hn
    ·exact absurd ⟨h1,h2,h3,fun a=>absurd a (by omega)⟩ hn
  ·exact Ev.neg h1 (Ev.now _)
 ·have c0:(0:Int)≤(i:Int):=by omega
  have c1:(i:Int)<(o.length:Int):=by omega
  have c2:(i:Int)≤(o.length:Int):=by omega
  obtain⟨h1,h2,h3,h4⟩:=hr
  rw[← dup_take hi] at h3
  refine Ev.shift ?_
  simp only[Xf.l1,c0,c1,c2,if_true,implFrom_eq,Option.bind_some,decide_eq_true_eq,hww,Int.toNat_natCast,succ64 hi (by omega)]
  refine Ev.pos h1 (Ev.pos h1.1 (Ev.pos (by omega) (Ev.neg h2 ?_)))
  refine Ev.bind ((contains_ev (o.take i) (by rw[List.length_take];omega) (rd o (i:Int))).nval h3) (Ev.neg (by decide) ?_)
  by_cases h5:(i:Int) > 0
  ·have e1:wrap64 ((i:Int) - 1)=(i:Int) - 1:=w64 (by omega) (by omega)
   have e2:(0:Int)≤(i:Int) - 1:=by omega
   have e3:(i:Int) - 1<(o.length:Int):=by omega
   have e4:=(hp (i - 1) (by omega)).1
   rw[show ((i - 1:Nat):Int)=(i:Int) - 1 by omega] at e4
   refine Ev.pos h5 ?_
   simp only[e1]
   exact Ev.pos e2 (Ev.pos e3 (Ev.pos e4.1 (Ev.pos (by omega) (Ev.neg (h4 (by omega)) h))))
  ·exact Ev.neg h5 h
theorem Xbj (w:List mW) (d:List mD) (t:List mT) (tm:Int) (c:List mC) (o q:List Int) (s:Int) (ho:o.length≤1048576) (hc:c.length≤1048576) :
  EvB (fun k=>Xf.f k w d t tm c o q s) (ordersP c o):=by
 simp only[Xf.f]
 refine(EvB.each c (R:=fun _ _=>True) (Q:=ordersP c o) (g:=fun i k=>Xf.l0 k (cntC soC c i:Int) c (c.length:Int) (i:Int) w d t tm c o q s) (fun _ => ?_) (fun i x hx hi hp hn=>absurd trivial hn) (fun i x hx hi hp hr r h => ?_)).iff ⟨fun a=>a.2,fun a=>⟨fun _ _ _=>trivial,a⟩⟩
 ·refine EvB.shift ?_
  simp only[Xf.l0,Int.lt_irrefl,if_false]
  exact Xbo w d t tm c o q s ho hc _
 ·have c0:(0:Int)≤(i:Int):=by omega
  have c1:(i:Int)<(c.length:Int):=by omega
  have er:rd_T80 c (i:Int)=x:=getD_get hx
  have hle:=cntC_le soC c i
  refine Ev.shift ?_
  simp only[Xf.l0,c0,c1,if_true,er]
  simp only[cntC,er] at h
  by_cases h5:x.f3 ≥ 0
  ·have e1:wrap64 ((cntC soC c i:Int)+1)=((cntC soC c i+1:Nat):Int):=by rw[w64 (by omega) (by omega)];omega
   have e2:soC x=true:=by unfold soC;rw[decide_eq_true_iff];exact h5
   simp only[e2,if_true] at h
   simp only[h5,if_true,e1,succ64 hi (by omega)]
   exact h
  ·have e2:¬ soC x=true:=by unfold soC;rw[decide_eq_true_iff];exact h5
   simp only[e2,if_false,Nat.add_zero] at h
   simp only[h5,if_false,succ64 hi (by omega)]
   exact h
end Go.Proofs.YthejoblnfpaojaaGreat.P
