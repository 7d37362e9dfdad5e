/- A part of the proof of the law FnExactTold: texts of this seat, merged (words, printed functions of the program, plain lemmas). Conditions: none of its own. -/
import Derived.Test.YteamagejhbkhnaaPkFnExactTold22
import Derived.Test.YteamagejhbkhnaaPkFnExactTold23
import Derived.Test.YteamagejhbkhnaaPkFnExactTold24
set_option linter.unusedSimpArgs false
set_option linter.unusedVariables false
set_option maxHeartbeats 8000000
set_option maxRecDepth 100000
namespace Go.Proofs.Yteamagejhbkhnaa.P
open Go.Proofs.YteamagejhbkhnaaZ Go.RowKit Go.Proofs.YteamagejhbkhnaaW.PrintWords Go.Proofs.YteamagejhbkhnaaW.PrintLast Go.Proofs.YteamagejhbkhnaaW.PrintMore
attribute [local go_sem] max2_int min2_int max_two min_two max_three min_three max_four min_four   -- for this text's walks alone
theorem Xy.sep (k:Nat) (A0_0:Option Addr) (c0_0:Nat) (l0_0:List (S172)) (A0_1:Option Addr) (c0_1:Nat) (l0_1:List (S165)) (A0_2:Option Addr) (c0_2:Nat) (l0_2:List (S139)) (a0_3:Int) (A0_4:Option Addr) (c0_4:Nat) (l0_4:List (S53)) (A0_5:Option Addr) (c0_5:Nat) (l0_5:List Int) (A0_6:Option Addr) (c0_6:Nat) (l0_6:List Int) (a0_7:Int) (r1:List (S170)) (r2:List (S175)) (r3:List (S146)) (r4:Int) (r5:List (S59)) (r6:List Int) (r7:List Int) (r8:Int) (w:World) (hr0_0:Kd.C k172 w A0_0 l0_0.length l0_0) (hc0_0:l0_0.length≤c0_0) (hr0_1:Kd.C k165 w A0_1 l0_1.length l0_1) (hc0_1:l0_1.length≤c0_1) (hr0_2:Kd.C k139 w A0_2 l0_2.length l0_2) (hc0_2:l0_2.length≤c0_2) (hr0_4:Kd.C k53 w A0_4 l0_4.length l0_4) (hc0_4:l0_4.length≤c0_4) (hr0_5:Kd.C (Kd.int .i64) w A0_5 l0_5.length l0_5) (hc0_5:l0_5.length≤c0_5) (hr0_6:Kd.C (Kd.int .i64) w A0_6 l0_6.length l0_6) (hc0_6:l0_6.length≤c0_6) (h:Xy.f k l0_0 l0_1 l0_2 a0_3 l0_4 l0_5 l0_6 a0_7=some (r1,r2,r3,r4,r5,r6,r7,r8)) :
  Calls Try.prog 68 #[.agg #[.slice A0_0 l0_0.length c0_0,.slice A0_1 l0_1.length c0_1,.slice A0_2 l0_2.length c0_2,.int .i64 a0_3,.slice A0_4 l0_4.length c0_4,.slice A0_5 l0_5.length c0_5,.slice A0_6 l0_6.length c0_6,.int .i64 a0_7]] w fun e w'=>∃ v0_ v1_ v2_ v4_ v5_ v6_:Value,e = .returned (.agg #[v0_,v1_,v2_,.int .i64 r4,v4_,v5_,v6_,.int .i64 r8])∧Kd.R k170 170 w' w.heap.size (fun _=>True) v0_ r1∧Kd.S k175 175 w' w.heap.size (fun k_=>some k_ ≠ (v5_:Value).ownBlock∧some k_ ≠ (v6_:Value).ownBlock) v1_ r2∧Kd.S k146 146 w' w.heap.size (fun _=>True) v2_ r3∧Kd.S k59 59 w' w.heap.size (fun k_=>some k_ ≠ (v5_:Value).ownBlock∧some k_ ≠ (v6_:Value).ownBlock) v4_ r5∧Kd.R (Kd.int .i64) 3 w' w.heap.size (fun k_=>some k_ ≠ (v6_:Value).ownBlock) v5_ r6∧Kd.R (Kd.int .i64) 3 w' w.heap.size (fun k_=>some k_ ≠ (v5_:Value).ownBlock) v6_ r7∧Below w.heap.size w w'∧Two k175 k59 175 59 w' w.heap.size (fun k_=>some k_ ≠ (v5_:Value).ownBlock∧some k_ ≠ (v6_:Value).ownBlock) v1_ r2 v4_ r5:=by
 have hu78:=Try.underlying78
 have hu87:=Try.underlying87
 have hu75:=Try.underlying75
 have hu84:=Try.underlying84
 have hu62:=Try.underlying62
 have hu24:=Try.underlying24
 have HR0_0:=Aside0.mk hr0_0
 have HC0_0:=Aside0.mk hc0_0
 clear hr0_0 hc0_0
 have HR0_1:=Aside0.mk hr0_1
 have HC0_1:=Aside0.mk hc0_1
 clear hr0_1 hc0_1
 have HR0_2:=Aside0.mk hr0_2
 have HC0_2:=Aside0.mk hc0_2
 clear hr0_2 hc0_2
 have HR0_4:=Aside0.mk hr0_4
 have HC0_4:=Aside0.mk hc0_4
 clear hr0_4 hc0_4
 have HR0_5:=Aside0.mk hr0_5
 have HC0_5:=Aside0.mk hc0_5
 clear hr0_5 hc0_5
 have HR0_6:=Aside0.mk hr0_6
 have HC0_6:=Aside0.mk hc0_6
 clear hr0_6 hc0_6
 have HB:=Aside0.mk (Below.refl w.heap.size w)
 have H:=h
 unfold Xy.f at H
 clear h
 replace H:=bE H;obtain⟨⟨t104,t107⟩,A2,H⟩:=H
 try dsimp only at H
 replace H:=bE H;obtain⟨t110,A3,H⟩:=H
 replace H:=bE H;obtain⟨t113,A4,H⟩:=H
 replace H:=bE H;obtain⟨t116,A5,H⟩:=H
 replace H:=bE H;obtain⟨⟨t119,t122⟩,A6,H⟩:=H
 try dsimp only at H
 simp only[Option.some.injEq,Prod.mk.injEq] at H
 obtain⟨rfl,rfl,rfl,rfl,rfl,rfl,rfl,rfl⟩:=H
 go_enter Try.func68,Try.ntmps68
 go_wp2_with (first | ((with_reducible refine gate_dst (N:=1) rfl ?_);refine boxE 1 #[.slice A0_0 l0_0.length c0_0,.slice A0_1 l0_1.length c0_1,.slice A0_2 l0_2.length c0_2,.int .i64 a0_3,.slice A0_4 l0_4.length c0_4,.slice A0_5 l0_5.length c0_5,.slice A0_6 l0_6.length c0_6,.int .i64 a0_7] 78 ?_;intro gbz1 hg wz1 hbox hb;have BKz1:=Aside0.mk (hbox);have GWz1:=Aside0.mk (gX' hg (hX HB.out));have GEz1:=Aside0.mk (gX' hg (hX HB.out));replace HB:=Aside0.mk (below_step (hX HB.out) hb);clear hb hbox hg) | ((with_reducible refine gate_dst (N:=2) rfl ?_);refine boxE 2 #[.slice none 0 0,.slice none 0 0,.slice none 0 0,.int .i64 0,.slice none 0 0,.slice none 0 0,.slice none 0 0,.int .i64 0] 87 ?_;intro gbz2 hg wz2 hbox hb;have BKz2:=Aside0.mk (hbox);have GWz2:=Aside0.mk (gX' hg (hX HB.out));have GEz2:=Aside0.mk (gX' hg (hX HB.out));have NBz1:=Aside0.mk (gL hg (bX BKz1.out));have NBz2:=Aside0.mk (gG hg (bX BKz1.out));replace BKz1:=Aside0.mk (blk_below (bX BKz1.out) hb);replace HB:=Aside0.mk (below_step (hX HB.out) hb);clear hb hbox hg) | ((with_reducible refine gate_dst (N:=3) rfl ?_);refine boxE 3 #[.slice none 0 0,.slice none 0 0,.slice none 0 0,.int .i64 0,.slice none 0 0,.slice none 0 0,.slice none 0 0,.int .i64 0] 87 ?_;intro gbz3 hg wz3 hbox hb;have BKz3:=Aside0.mk (hbox);have GWz3:=Aside0.mk (gX' hg (hX HB.out));have GEz3:=Aside0.mk (gX' hg (hX HB.out));have NBz3:=Aside0.mk (gL hg (bX BKz1.out));have NBz4:=Aside0.mk (gG hg (bX BKz1.out));have NBz5:=Aside0.mk (gL hg (bX BKz2.out));have NBz6:=Aside0.mk (gG hg (bX BKz2.out));replace BKz1:=Aside0.mk (blk_below (bX BKz1.out) hb);replace BKz2:=Aside0.mk (blk_below (bX BKz2.out) hb);replace HB:=Aside0.mk (below_step (hX HB.out) hb);clear hb hbox hg;have hnbz1:=NBz1.out;have hncz1:=NBz2.out;have hnbz2:=NBz3.out;have hncz2:=NBz4.out;obtain⟨hczz1,hczz2,hczz3,hczz4,hczz5,hczz6,hczz7,hczz8,hfzz1,hfzz2,hfzz3,hfzz4,hfzz5,hfzz6,hfzz7,hfzz8⟩:=cZ8 BKz1.out) | ((with_reducible refine gate_callee (f:=117) rfl ?_);refine goesM 117 6 Try.func117 #[.agg #[.slice A0_0 l0_0.length c0_0,.slice A0_1 l0_1.length c0_1]] ?_;refine(Xab.calls k _ _ l0_0 _ _ l0_1 t104 t107 _ (cC HR0_0.out HB.out) HC0_0.out (cC HR0_1.out HB.out) HC0_1.out A2.out).mono ?_;rintro e wz4 ⟨vz1,vz2,rfl,hoz1,hoz2,hb⟩;refine⟨_,rfl,?_⟩;have HOz1:=Aside0.mk (Kd.R_lower hoz1 (below_size (hX HB.out)));have HOz2:=Aside0.mk (Kd.S_lower hoz2 (below_size (hX HB.out)));replace BKz1:=Aside0.mk (blk_below (bX BKz1.out) hb);replace BKz2:=Aside0.mk (blk_below (bX BKz2.out) hb);replace BKz3:=Aside0.mk (blk_below (bX BKz3.out) hb);replace HB:=Aside0.mk (below_step (hX HB.out) hb);clear hb hoz1 hoz2;obtain⟨Aoz1,coz1,eoz1⟩:=Kd.R_slice HOz1.out;subst eoz1;have hnbz3:=NBz6.out;have hncz3:=NBz5.out;obtain⟨hczz9,hczz10,hczz11,hczz12,hczz13,hczz14,hczz15,hczz16,hfzz9,hfzz10,hfzz11,hfzz12,hfzz13,hfzz14,hfzz15,hfzz16⟩:=cZ8 BKz3.out;obtain⟨Aoz2,coz2,eoz2⟩:=Kd.S_slice HOz2.out;subst eoz2;obtain⟨hczz17,hczz18,hczz19,hczz20,hczz21,hczz22,hczz23,hczz24,hfzz17,hfzz18,hfzz19,hfzz20,hfzz21,hfzz22,hfzz23,hfzz24⟩:=cZ8 BKz1.out) | ((with_reducible refine gate_callee (f:=118) rfl ?_);refine goesM 118 10 Try.func118 #[.slice A0_2 l0_2.length c0_2] ?_;refine(Xj.calls k _ _ l0_2 t110 _ (by exact Kd.C_below HR0_2.out (hX HB.out)) HC0_2.out A3.out).mono ?_;rintro e wz5 ⟨vz3,rfl,hoz1,hb⟩;refine⟨_,rfl,?_⟩;have HOz3:=Aside0.mk (Kd.S_lower hoz1 (below_size (hX HB.out)));replace HOz1:=Aside0.mk (Kd.R_below (rT (h:=by exact(Kd.R_mono (Kd.R_far (p:=⟨gbz3,1,none⟩) (Kd.R_far (p:=⟨gbz3,0,none⟩) (Kd.R_types HOz1.out BKz3.out (by decide)) (fun _ hk=>hk.2) (.slice Aoz1 t104.length coz1)) (fun _ hk=>hk.2) (.slice Aoz2 t107.length coz2)) (fun _ h_=>h_.1)))) hb);replace HOz2:=Aside0.mk (Kd.S_below (by (with_reducible repeat (first | apply Kd.S_alloc | apply Kd.S_drewN | apply Kd.S_drew));exact(Kd.S_mono (Kd.S_far (p:=⟨gbz3,1,none⟩) (Kd.S_far (p:=⟨gbz3,0,none⟩) (Kd.S_types HOz2.out BKz3.out (by decide)) (fun _ hk=>hk.2) (.slice Aoz1 t104.length coz1)) (fun _ hk=>hk.2) (.slice Aoz2 t107.length coz2)) (fun _ h_=>h_.1))) hb);replace BKz1:=Aside0.mk (blk_below (bF BKz1.out) hb);replace BKz2:=Aside0.mk (blk_below (bF BKz2.out) hb);replace BKz3:=Aside0.mk (blk_below (g:=gbz3) (o:=.cells #[.slice Aoz1 t104.length coz1,.slice Aoz2 t107.length coz2,.slice none 0 0,.int .i64 0,.slice none 0 0,.slice none 0 0,.slice none 0 0,.int .i64 0] 87 (0,0)) (bP BKz3.out) hb);replace HB:=Aside0.mk (below_step (hX HB.out) hb);clear hb hoz1;obtain⟨Aoz3,coz3,eoz3⟩:=Kd.S_slice HOz3.out;subst eoz3;obtain⟨hczz25,hczz26,hczz27,hczz28,hczz29,hczz30,hczz31,hczz32,hfzz25,hfzz26,hfzz27,hfzz28,hfzz29,hfzz30,hfzz31,hfzz32⟩:=cZ8 BKz3.out;obtain⟨hczz33,hczz34,hczz35,hczz36,hczz37,hczz38,hczz39,hczz40,hfzz33,hfzz34,hfzz35,hfzz36,hfzz37,hfzz38,hfzz39,hfzz40⟩:=cZ8 BKz1.out) | ((with_reducible refine gate_callee (f:=63) rfl ?_);refine goesM 63 17 Try.func63 #[.slice A0_4 l0_4.length c0_4] ?_;refine(Xu.calls k _ _ l0_4 t113 _ (by exact Kd.C_below HR0_4.out (hX HB.out)) HC0_4.out A4.out).mono ?_;rintro e wz6 ⟨vz4,rfl,hoz1,hb⟩;refine⟨_,rfl,?_⟩;have HTW:=aM (two_start (sF HOz2.out BKz3.out) hoz1 hb (below_size (hX HB.out)));have HOz4:=Aside0.mk (Kd.S_lower hoz1 (below_size (hX HB.out)));replace HOz1:=Aside0.mk (Kd.R_below (rT (h:=by exact(Kd.R_mono (Kd.R_far (p:=⟨gbz3,3,none⟩) (Kd.R_far (p:=⟨gbz3,2,none⟩) (Kd.R_types HOz1.out BKz3.out (by decide)) (fun _ hk=>hk.2) (.slice Aoz3 t110.length coz3)) (fun _ hk=>hk.2) (.int .i64 a0_3)) (fun _ h_=>h_.1)))) hb);replace HOz2:=Aside0.mk (Kd.S_below (by (with_reducible repeat (first | apply Kd.S_alloc | apply Kd.S_drewN | apply Kd.S_drew));exact(Kd.S_mono (Kd.S_far (p:=⟨gbz3,3,none⟩) (Kd.S_far (p:=⟨gbz3,2,none⟩) (Kd.S_types HOz2.out BKz3.out (by decide)) (fun _ hk=>hk.2) (.slice Aoz3 t110.length coz3)) (fun _ hk=>hk.2) (.int .i64 a0_3)) (fun _ h_=>h_.1))) hb);replace HOz3:=Aside0.mk (Kd.S_below (by (with_reducible repeat (first | apply Kd.S_alloc | apply Kd.S_drewN | apply Kd.S_drew));exact(Kd.S_mono (Kd.S_far (p:=⟨gbz3,3,none⟩) (Kd.S_far (p:=⟨gbz3,2,none⟩) (Kd.S_types HOz3.out BKz3.out (by decide)) (fun _ hk=>hk.2) (.slice Aoz3 t110.length coz3)) (fun _ hk=>hk.2) (.int .i64 a0_3)) (fun _ h_=>h_.1))) hb);replace BKz1:=Aside0.mk (blk_below (bF BKz1.out) hb);replace BKz2:=Aside0.mk (blk_below (bF BKz2.out) hb);replace BKz3:=Aside0.mk (blk_below (g:=gbz3) (o:=.cells #[.slice Aoz1 t104.length coz1,.slice Aoz2 t107.length coz2,.slice Aoz3 t110.length coz3,.int .i64 a0_3,.slice none 0 0,.slice none 0 0,.slice none 0 0,.int .i64 0] 87 (0,0)) (bP BKz3.out) hb);replace HB:=Aside0.mk (below_step (hX HB.out) hb);clear hb hoz1;obtain⟨Aoz4,coz4,eoz4⟩:=Kd.S_slice HOz4.out;subst eoz4;obtain⟨hczz41,hczz42,hczz43,hczz44,hczz45,hczz46,hczz47,hczz48,hfzz41,hfzz42,hfzz43,hfzz44,hfzz45,hfzz46,hfzz47,hfzz48⟩:=cZ8 BKz3.out;obtain⟨hczz49,hczz50,hczz51,hczz52,hczz53,hczz54,hczz55,hczz56,hfzz49,hfzz50,hfzz51,hfzz52,hfzz53,hfzz54,hfzz55,hfzz56⟩:=cZ8 BKz1.out) | ((with_reducible refine gate_callee (f:=14) rfl ?_);refine goesM 14 21 Try.func14 #[.slice A0_5 l0_5.length c0_5] ?_;refine(Xq.calls k _ _ l0_5 t116 _ (by exact Kd.C_below HR0_5.out (hX HB.out)) HC0_5.out A5.out).mono ?_;rintro e wz7 ⟨vz5,rfl,hoz1,hb⟩;refine⟨_,rfl,?_⟩;replace HTW:=aM (two_elder (twF HTW.out BKz3.out) (Kd.R_base hoz1) hb);have HOz5:=Aside0.mk (Kd.R_lower hoz1 (below_size (hX HB.out)));replace HOz1:=Aside0.mk (Kd.R_below (rT (h:=by exact(Kd.R_mono (Kd.R_far (p:=⟨gbz3,4,none⟩) (Kd.R_types HOz1.out BKz3.out (by decide)) (fun _ hk=>hk.2) (.slice Aoz4 t113.length coz4)) (fun _ h_=>h_.1)))) hb);replace HOz2:=Aside0.mk (Kd.S_elder' (by (with_reducible repeat (first | apply Kd.S_alloc | apply Kd.S_drewN | apply Kd.S_drew));exact(Kd.S_mono (Kd.S_far (p:=⟨gbz3,4,none⟩) (Kd.S_types HOz2.out BKz3.out (by decide)) (fun _ hk=>hk.2) (.slice Aoz4 t113.length coz4)) (fun _ h_=>h_.1))) (Kd.R_base hoz1) hb);replace HOz3:=Aside0.mk (Kd.S_below (by (with_reducible repeat (first | apply Kd.S_alloc | apply Kd.S_drewN | apply Kd.S_drew));exact(Kd.S_mono (Kd.S_far (p:=⟨gbz3,4,none⟩) (Kd.S_types HOz3.out BKz3.out (by decide)) (fun _ hk=>hk.2) (.slice Aoz4 t113.length coz4)) (fun _ h_=>h_.1))) hb);replace HOz4:=Aside0.mk (Kd.S_elder' (by (with_reducible repeat (first | apply Kd.S_alloc | apply Kd.S_drewN | apply Kd.S_drew));exact(Kd.S_mono (Kd.S_far (p:=⟨gbz3,4,none⟩) (Kd.S_types HOz4.out BKz3.out (by decide)) (fun _ hk=>hk.2) (.slice Aoz4 t113.length coz4)) (fun _ h_=>h_.1))) (Kd.R_base hoz1) hb);replace BKz1:=Aside0.mk (blk_below (bF BKz1.out) hb);replace BKz2:=Aside0.mk (blk_below (bF BKz2.out) hb);replace BKz3:=Aside0.mk (blk_below (g:=gbz3) (o:=.cells #[.slice Aoz1 t104.length coz1,.slice Aoz2 t107.length coz2,.slice Aoz3 t110.length coz3,.int .i64 a0_3,.slice Aoz4 t113.length coz4,.slice none 0 0,.slice none 0 0,.int .i64 0] 87 (0,0)) (bP BKz3.out) hb);replace HB:=Aside0.mk (below_step (hX HB.out) hb);clear hb hoz1;obtain⟨Aoz5,coz5,eoz5⟩:=Kd.R_slice HOz5.out;subst eoz5;obtain⟨hczz57,hczz58,hczz59,hczz60,hczz61,hczz62,hczz63,hczz64,hfzz57,hfzz58,hfzz59,hfzz60,hfzz61,hfzz62,hfzz63,hfzz64⟩:=cZ8 BKz3.out;obtain⟨hczz65,hczz66,hczz67,hczz68,hczz69,hczz70,hczz71,hczz72,hfzz65,hfzz66,hfzz67,hfzz68,hfzz69,hfzz70,hfzz71,hfzz72⟩:=cZ8 BKz1.out) | ((with_reducible refine gate_callee (f:=62) rfl ?_);refine goesM 62 25 Try.func62 #[.agg #[.slice A0_6 l0_6.length c0_6,.int .i64 a0_7]] ?_;refine(X0.calls k _ _ l0_6 a0_7 t119 t122 _ (by exact Kd.C_below HR0_6.out (hX HB.out)) HC0_6.out A6.out).mono ?_;rintro e wz8 ⟨vz6,rfl,hoz1,hb⟩;refine⟨_,rfl,?_⟩;replace HTW:=aM (two_elder (twF HTW.out BKz3.out) (Kd.R_base hoz1) hb);have HOz6:=Aside0.mk (Kd.R_lower (Kd.R_new' hoz1 (Kd.R_lt (rT (h:=by exact(Kd.R_mono (Kd.R_far (p:=⟨gbz3,5,none⟩) (Kd.R_types HOz5.out BKz3.out (by decide)) (fun _ hk=>hk.2) (.slice Aoz5 t116.length coz5)) (fun _ h_=>h_.1)))))) (below_size (hX HB.out)));replace HOz1:=Aside0.mk (Kd.R_below (rT (h:=by exact(Kd.R_mono (Kd.R_far (p:=⟨gbz3,5,none⟩) (Kd.R_types HOz1.out BKz3.out (by decide)) (fun _ hk=>hk.2) (.slice Aoz5 t116.length coz5)) (fun _ h_=>h_.1)))) hb);replace HOz2:=Aside0.mk (Kd.S_elder' (by (with_reducible repeat (first | apply Kd.S_alloc | apply Kd.S_drewN | apply Kd.S_drew));exact(Kd.S_mono (Kd.S_far (p:=⟨gbz3,5,none⟩) (Kd.S_types HOz2.out BKz3.out (by decide)) (fun _ hk=>hk.2) (.slice Aoz5 t116.length coz5)) (fun _ h_=>h_.1))) (Kd.R_base hoz1) hb);replace HOz3:=Aside0.mk (Kd.S_below (by (with_reducible repeat (first | apply Kd.S_alloc | apply Kd.S_drewN | apply Kd.S_drew));exact(Kd.S_mono (Kd.S_far (p:=⟨gbz3,5,none⟩) (Kd.S_types HOz3.out BKz3.out (by decide)) (fun _ hk=>hk.2) (.slice Aoz5 t116.length coz5)) (fun _ h_=>h_.1))) hb);replace HOz4:=Aside0.mk (Kd.S_elder' (by (with_reducible repeat (first | apply Kd.S_alloc | apply Kd.S_drewN | apply Kd.S_drew));exact(Kd.S_mono (Kd.S_far (p:=⟨gbz3,5,none⟩) (Kd.S_types HOz4.out BKz3.out (by decide)) (fun _ hk=>hk.2) (.slice Aoz5 t116.length coz5)) (fun _ h_=>h_.1))) (Kd.R_base hoz1) hb);replace HOz5:=Aside0.mk (Kd.R_elder' (rT (h:=by exact(Kd.R_mono (Kd.R_far (p:=⟨gbz3,5,none⟩) (Kd.R_types HOz5.out BKz3.out (by decide)) (fun _ hk=>hk.2) (.slice Aoz5 t116.length coz5)) (fun _ h_=>h_.1)))) (Kd.R_base hoz1) hb);replace BKz1:=Aside0.mk (blk_below (bF BKz1.out) hb);replace BKz2:=Aside0.mk (blk_below (bF BKz2.out) hb);replace BKz3:=Aside0.mk (blk_below (g:=gbz3) (o:=.cells #[.slice Aoz1 t104.length coz1,.slice Aoz2 t107.length coz2,.slice Aoz3 t110.length coz3,.int .i64 a0_3,.slice Aoz4 t113.length coz4,.slice Aoz5 t116.length coz5,.slice none 0 0,.int .i64 0] 87 (0,0)) (bP BKz3.out) hb);replace HB:=Aside0.mk (below_step (hX HB.out) hb);clear hb hoz1;obtain⟨Aoz6,coz6,eoz6⟩:=Kd.R_slice HOz6.out;subst eoz6;obtain⟨hczz73,hczz74,hczz75,hczz76,hczz77,hczz78,hczz79,hczz80,hfzz73,hfzz74,hfzz75,hfzz76,hfzz77,hfzz78,hfzz79,hfzz80⟩:=cZ8 BKz3.out;obtain⟨hczz81,hczz82,hczz83,hczz84,hczz85,hczz86,hczz87,hczz88,hfzz81,hfzz82,hfzz83,hfzz84,hfzz85,hfzz86,hfzz87,hfzz88⟩:=cZ8 BKz2.out))
 refine bodyPost_ret (results_cell_row rfl _ _ gbz2 87 #[.slice Aoz1 t104.length coz1,.slice Aoz2 t107.length coz2,.slice Aoz3 t110.length coz3,.int .i64 a0_3,.slice Aoz4 t113.length coz4,.slice Aoz5 t116.length coz5,.slice Aoz6 t119.length coz6,.int .i64 t122] (0,0) _ rfl (bP BKz2.out) Try.underlying87 rfl (by kernel_rfl)) rfl ?_
 exact⟨_,_,_,_,_,_,rE,(rT (h:=by exact Kd.R_mono (Kd.R_far (p:=⟨gbz2,7,none⟩) (Kd.R_far (p:=⟨gbz2,6,none⟩) (Kd.R_far (p:=⟨gbz2,5,none⟩) (Kd.R_far (p:=⟨gbz2,4,none⟩) (Kd.R_far (p:=⟨gbz2,3,none⟩) (Kd.R_far (p:=⟨gbz2,2,none⟩) (Kd.R_far (p:=⟨gbz2,1,none⟩) (Kd.R_far (p:=⟨gbz2,0,none⟩) (Kd.R_far (p:=⟨gbz3,7,none⟩) (Kd.R_far (p:=⟨gbz3,6,none⟩) (Kd.R_types (Kd.R_types HOz1.out BKz3.out (by decide)) BKz2.out (by decide)) (fun _ hk=>hk.1.2) (.slice Aoz6 t119.length coz6)) (fun _ hk=>hk.1.2) (.int .i64 t122)) (fun _ hk=>hk.2) (.slice Aoz1 t104.length coz1)) (fun _ hk=>hk.2) (.slice Aoz2 t107.length coz2)) (fun _ hk=>hk.2) (.slice Aoz3 t110.length coz3)) (fun _ hk=>hk.2) (.int .i64 a0_3)) (fun _ hk=>hk.2) (.slice Aoz4 t113.length coz4)) (fun _ hk=>hk.2) (.slice Aoz5 t116.length coz5)) (fun _ hk=>hk.2) (.slice Aoz6 t119.length coz6)) (fun _ hk=>hk.2) (.int .i64 t122)) (fun _ hk=>trivial))),by (with_reducible repeat (first | apply Kd.S_alloc | apply Kd.S_drewN | apply Kd.S_drew));exact Kd.S_mono (Kd.S_far (p:=⟨gbz2,7,none⟩) (Kd.S_far (p:=⟨gbz2,6,none⟩) (Kd.S_far (p:=⟨gbz2,5,none⟩) (Kd.S_far (p:=⟨gbz2,4,none⟩) (Kd.S_far (p:=⟨gbz2,3,none⟩) (Kd.S_far (p:=⟨gbz2,2,none⟩) (Kd.S_far (p:=⟨gbz2,1,none⟩) (Kd.S_far (p:=⟨gbz2,0,none⟩) (Kd.S_far (p:=⟨gbz3,7,none⟩) (Kd.S_far (p:=⟨gbz3,6,none⟩) (Kd.S_types (Kd.S_types HOz2.out BKz3.out (by decide)) BKz2.out (by decide)) (fun _ hk=>hk.1.2) (.slice Aoz6 t119.length coz6)) (fun _ hk=>hk.1.2) (.int .i64 t122)) (fun _ hk=>hk.2) (.slice Aoz1 t104.length coz1)) (fun _ hk=>hk.2) (.slice Aoz2 t107.length coz2)) (fun _ hk=>hk.2) (.slice Aoz3 t110.length coz3)) (fun _ hk=>hk.2) (.int .i64 a0_3)) (fun _ hk=>hk.2) (.slice Aoz4 t113.length coz4)) (fun _ hk=>hk.2) (.slice Aoz5 t116.length coz5)) (fun _ hk=>hk.2) (.slice Aoz6 t119.length coz6)) (fun _ hk=>hk.2) (.int .i64 t122)) (fun _ hk=>⟨hk.1.1.1.2,hk.1.1.2⟩),by (with_reducible repeat (first | apply Kd.S_alloc | apply Kd.S_drewN | apply Kd.S_drew));exact Kd.S_mono (Kd.S_far (p:=⟨gbz2,7,none⟩) (Kd.S_far (p:=⟨gbz2,6,none⟩) (Kd.S_far (p:=⟨gbz2,5,none⟩) (Kd.S_far (p:=⟨gbz2,4,none⟩) (Kd.S_far (p:=⟨gbz2,3,none⟩) (Kd.S_far (p:=⟨gbz2,2,none⟩) (Kd.S_far (p:=⟨gbz2,1,none⟩) (Kd.S_far (p:=⟨gbz2,0,none⟩) (Kd.S_far (p:=⟨gbz3,7,none⟩) (Kd.S_far (p:=⟨gbz3,6,none⟩) (Kd.S_types (Kd.S_types HOz3.out BKz3.out (by decide)) BKz2.out (by decide)) (fun _ hk=>hk.1.2) (.slice Aoz6 t119.length coz6)) (fun _ hk=>hk.1.2) (.int .i64 t122)) (fun _ hk=>hk.2) (.slice Aoz1 t104.length coz1)) (fun _ hk=>hk.2) (.slice Aoz2 t107.length coz2)) (fun _ hk=>hk.2) (.slice Aoz3 t110.length coz3)) (fun _ hk=>hk.2) (.int .i64 a0_3)) (fun _ hk=>hk.2) (.slice Aoz4 t113.length coz4)) (fun _ hk=>hk.2) (.slice Aoz5 t116.length coz5)) (fun _ hk=>hk.2) (.slice Aoz6 t119.length coz6)) (fun _ hk=>hk.2) (.int .i64 t122)) (fun _ hk=>trivial),by (with_reducible repeat (first | apply Kd.S_alloc | apply Kd.S_drewN | apply Kd.S_drew));exact Kd.S_mono (Kd.S_far (p:=⟨gbz2,7,none⟩) (Kd.S_far (p:=⟨gbz2,6,none⟩) (Kd.S_far (p:=⟨gbz2,5,none⟩) (Kd.S_far (p:=⟨gbz2,4,none⟩) (Kd.S_far (p:=⟨gbz2,3,none⟩) (Kd.S_far (p:=⟨gbz2,2,none⟩) (Kd.S_far (p:=⟨gbz2,1,none⟩) (Kd.S_far (p:=⟨gbz2,0,none⟩) (Kd.S_far (p:=⟨gbz3,7,none⟩) (Kd.S_far (p:=⟨gbz3,6,none⟩) (Kd.S_types (Kd.S_types HOz4.out BKz3.out (by decide)) BKz2.out (by decide)) (fun _ hk=>hk.1.2) (.slice Aoz6 t119.length coz6)) (fun _ hk=>hk.1.2) (.int .i64 t122)) (fun _ hk=>hk.2) (.slice Aoz1 t104.length coz1)) (fun _ hk=>hk.2) (.slice Aoz2 t107.length coz2)) (fun _ hk=>hk.2) (.slice Aoz3 t110.length coz3)) (fun _ hk=>hk.2) (.int .i64 a0_3)) (fun _ hk=>hk.2) (.slice Aoz4 t113.length coz4)) (fun _ hk=>hk.2) (.slice Aoz5 t116.length coz5)) (fun _ hk=>hk.2) (.slice Aoz6 t119.length coz6)) (fun _ hk=>hk.2) (.int .i64 t122)) (fun _ hk=>⟨hk.1.1.1.2,hk.1.1.2⟩),(rT (h:=by exact Kd.R_mono (Kd.R_far (p:=⟨gbz2,7,none⟩) (Kd.R_far (p:=⟨gbz2,6,none⟩) (Kd.R_far (p:=⟨gbz2,5,none⟩) (Kd.R_far (p:=⟨gbz2,4,none⟩) (Kd.R_far (p:=⟨gbz2,3,none⟩) (Kd.R_far (p:=⟨gbz2,2,none⟩) (Kd.R_far (p:=⟨gbz2,1,none⟩) (Kd.R_far (p:=⟨gbz2,0,none⟩) (Kd.R_far (p:=⟨gbz3,7,none⟩) (Kd.R_far (p:=⟨gbz3,6,none⟩) (Kd.R_types (Kd.R_types HOz5.out BKz3.out (by decide)) BKz2.out (by decide)) (fun _ hk=>hk.1.2) (.slice Aoz6 t119.length coz6)) (fun _ hk=>hk.1.2) (.int .i64 t122)) (fun _ hk=>hk.2) (.slice Aoz1 t104.length coz1)) (fun _ hk=>hk.2) (.slice Aoz2 t107.length coz2)) (fun _ hk=>hk.2) (.slice Aoz3 t110.length coz3)) (fun _ hk=>hk.2) (.int .i64 a0_3)) (fun _ hk=>hk.2) (.slice Aoz4 t113.length coz4)) (fun _ hk=>hk.2) (.slice Aoz5 t116.length coz5)) (fun _ hk=>hk.2) (.slice Aoz6 t119.length coz6)) (fun _ hk=>hk.2) (.int .i64 t122)) (fun _ hk=>hk.1.1.2))),(rT (h:=by exact Kd.R_mono (Kd.R_far (p:=⟨gbz2,7,none⟩) (Kd.R_far (p:=⟨gbz2,6,none⟩) (Kd.R_far (p:=⟨gbz2,5,none⟩) (Kd.R_far (p:=⟨gbz2,4,none⟩) (Kd.R_far (p:=⟨gbz2,3,none⟩) (Kd.R_far (p:=⟨gbz2,2,none⟩) (Kd.R_far (p:=⟨gbz2,1,none⟩) (Kd.R_far (p:=⟨gbz2,0,none⟩) (Kd.R_far (p:=⟨gbz3,7,none⟩) (Kd.R_far (p:=⟨gbz3,6,none⟩) (Kd.R_types (Kd.R_types HOz6.out BKz3.out (by decide)) BKz2.out (by decide)) (fun _ hk=>hk.1.2) (.slice Aoz6 t119.length coz6)) (fun _ hk=>hk.1.2) (.int .i64 t122)) (fun _ hk=>hk.2) (.slice Aoz1 t104.length coz1)) (fun _ hk=>hk.2) (.slice Aoz2 t107.length coz2)) (fun _ hk=>hk.2) (.slice Aoz3 t110.length coz3)) (fun _ hk=>hk.2) (.int .i64 a0_3)) (fun _ hk=>hk.2) (.slice Aoz4 t113.length coz4)) (fun _ hk=>hk.2) (.slice Aoz5 t116.length coz5)) (fun _ hk=>hk.2) (.slice Aoz6 t119.length coz6)) (fun _ hk=>hk.2) (.int .i64 t122)) (fun _ hk=>hk.1.1.2))),(hX HB.out),two_mono (twF2 HTW.out BKz3.out BKz2.out) (fun _ hk=>⟨hk.1.2,hk.2⟩)⟩
def Xal.f (k:Nat) (l0:List (S170)) (l1:List (S175)) (a1:Int):Option (Int × List (S170) × List (S175)):=(Xv.f k l0 a1).bind fun t1=>((Xz.f k l1 t1.1).bind fun t2=>(some (t2.1,t1.2,t2.2)))
theorem Xal.calls (k:Nat) (okW okD:Nat→Prop) (vW vD:Value) (l0:List (S170)) (l1:List (S175)) (a1:Int) (r1:Int) (r2:List (S170)) (r3:List (S175)) (w0 w:World) (hB:Below w0.heap.size w0 w) (hW:Kd.R k170 170 w w0.heap.size okW vW l0) (hD:Kd.S k175 175 w w0.heap.size okD vD l1) (H:Xal.f k l0 l1 a1=some (r1,r2,r3)) :
  Calls Try.prog 122 #[.agg #[vW,vD],.int .i64 a1] w fun e w'=>e = .returned (.int .i64 r1)∧Kd.R k170 170 w' w0.heap.size okW vW r2∧Kd.S k175 175 w' w0.heap.size okD vD r3∧Below w0.heap.size w0 w'∧Kept w w' (fun k=>some k=vW.ownBlock ∨ okD k):=by
 have hu38:=Try.underlying84
 have HW:=aM hW
 have HD:=aM (Deep.S_ty (l:=[175,200,3]) hD)
 have hWt:=aM (Deep.own_ty hW)
 have HB:=aM hB
 clear hB hW hD
 unfold Xal.f at H
 replace H:=bE H;obtain⟨⟨t1,t2⟩,A1,H⟩:=H
 replace H:=bE H;obtain⟨⟨t3,t4⟩,A2,H⟩:=H
 simp only[Option.some.injEq,Prod.mk.injEq] at H
 obtain⟨rfl,rfl,rfl⟩:=H
 obtain⟨Ao1,co1,eo1⟩:=Kd.R_slice HW.out
 subst eo1
 obtain⟨Ao2,co2,eo2⟩:=Kd.S_slice HD.out
 subst eo2
 go_enter Try.func122,Try.ntmps122
 go_wp2_with (first | (refine boxE 2 #[.slice Ao1 l0.length co1,.slice Ao2 l1.length co2] 84 ?_;intro gbz1 hg wz1 hbox hb;have BKz1:=aM (hbox);have GEz1:=aG hg HB;have hgw:=aM (show w.heap.size≤gbz1 from Nat.le_of_eq hg.symm);replace HW:=aQ HW hb;replace HD:=aT HD hb;have HK:=aM (Kept.of_below hb (fun k=>some k=(Value.slice Ao1 l0.length co1).ownBlock ∨ okD k));replace HB:=aS HB hb;clear hb hbox hg;have hczz1:=cZ2 BKz1.out) | ((with_reducible refine gate_callee (f:=147) rfl ?_);refine goesM 147 8 Try.func147 #[.slice Ao1 l0.length co1,.int .i64 a1] ?_;refine(Xv.calls k (fun k_=>some k_=(.slice Ao1 l0.length co1:Value).ownBlock) (.slice Ao1 l0.length co1) l0 a1 t1 t2 w0 _ (hX HB.out) (by exact Kd.R_tight rfl HW.out) A1.out).mono ?_;rintro e wz2 ⟨rfl,hyz1,hb,hkp⟩;refine⟨_,rfl,?_⟩;replace BKz1:=aM (blk_kept (bX BKz1.out) hkp (fun e_=>(Kd.R_ne HW.out BKz1.out (by decide)) e_));replace HK:=aM (Kept.then_ HK.out hkp (fun k_ e_ => .inl (.inl e_)));replace HD:=aM (Kd.S_kept HD.out hkp (fun k_ h1_ e_=>Deep.Ty_no (l:=[175,200,3]) h1_.2 (hWt.out k_ e_.symm) (by decide)));replace HW:=aM (Kd.R_reok rfl hyz1 (fun k_ e_=>HW.out.1 k_ e_));replace HB:=aM hb;clear hb hkp hyz1;have hczz2:=cZ2 BKz1.out) | ((with_reducible refine gate_callee (f:=148) rfl ?_);refine goesM 148 12 Try.func148 #[.slice Ao2 l1.length co2,.int .i64 t1] ?_;refine(Xz.calls k (fun k_=>okD k_∧Deep.Ty w k_ [175,200,3]) (.slice Ao2 l1.length co2) l1 t1 t3 t4 w0 _ (hX HB.out) (sX HD.out) A2.out).mono ?_;rintro e wz3 ⟨rfl,hyz1,hb,hkp⟩;refine⟨_,rfl,?_⟩;replace HK:=aM (Kept.then_ HK.out hkp (fun k_ e_ => .inl (.inr e_.1)));replace HW:=aM (Kd.R_reok rfl (Kd.R_kept (Kd.R_tight rfl HW.out) hkp (fun k_ h1_ h2_=>Deep.Ty_no (l:=[175,200,3]) h2_.2 (hWt.out k_ h1_.symm) (by decide))) (fun k_ e_=>HW.out.1 k_ e_));replace HD:=aM hyz1;replace HB:=aM hb;clear hb hkp hyz1))
 go_ret
 exact⟨rE,(rX HW.out),sX (Kd.S_mono HD.out (fun _ hk=>hk.1)),(hX HB.out),HK.out⟩
end Go.Proofs.Yteamagejhbkhnaa.P
namespace Go.Proofs.Yteamagejhbkhnaa.P
open Go.RowKit Go.Proofs.YteamagejhbkhnaaW.PrintWords Go.Proofs.YteamagejhbkhnaaW.PrintLast Go.Proofs.YteamagejhbkhnaaZ
theorem lf_thenE {a b t:Int} {g:Nat→Option Int} {G:Int→Nat→Option Int} (ha:0≤a) (hb:0≤b) (ht:t≤1048576) (hg:Ev g (lf a t)) (hG:∀ u,0≤u→u≤1048576→Ev (G u) (lf b u)):Ev (fun k=>(g k).bind fun u=>if u<0 then some (-1) else G u k) (lf (a+b) t):=by
 refine Ev.bind hg ?_
 by_cases h:a≤t
 ·rw[lf_pos h]
  refine Ev.neg (by omega) ((hG _ (by omega) (by omega)).to ?_)
  unfold lf
  by_cases h2:b≤t - a
  ·rw[if_pos h2,if_pos (by omega)];omega
  ·rw[if_neg h2,if_neg (by omega)]
 ·rw[lf_neg h]
  refine Ev.pos (by decide) (Ev.val (lf_neg (by omega)).symm)
theorem lf_lastE {a t:Int} {g:Nat→Option Int} (ha:0≤a) (hg:Ev g (lf a t)):Ev (fun k=>(g k).bind fun u=>if u<0 then some (-1) else some u) (lf a t):=by
 refine Ev.bind hg ?_
 by_cases h:a≤t
 ·rw[lf_pos h];exact Ev.neg (by omega) (Ev.now _)
 ·rw[lf_neg h];exact Ev.pos (by decide) (Ev.now _)
def wfDs (d:List lDesc):Prop:=d.length≤9223372036854775807∧∀ x ∈ d,x.f2.length≤9223372036854775807∧x.f3.f1.length≤9223372036854775807
def wfTs (d:List lThread):Prop:=d.length≤9223372036854775807∧∀ x ∈ d,x.f0.length≤9223372036854775807∧x.f3.length≤9223372036854775807∧x.f4.length≤9223372036854775807
def wfCs (d:List lCall):Prop:=d.length≤9223372036854775807∧∀ x ∈ d,x.f5.f1.length≤9223372036854775807
def wtMem (w:List lWord) (d:List lDesc):Int:=(w.length:Int)+(d.length+ctl wtDesc d)
def wtTail (t:List lThread) (c:List lCall) (p q:List Int):Int:=((t.length:Int)+ctl wtThread t)+(((c.length:Int)+ctl wtCall c)+((p.length:Int)+q.length))
theorem szMem_ev (w:List lWord) (d:List lDesc) (t:Int) (h0:0≤t) (h1:t≤1048576) (hw:w.length≤9223372036854775807) (hd:wfDs d):Ev (fun k=>Xaa.f k w d t) (lf (wtMem w d) t):=by
 have c1:=ctl_nonneg wtDesc_nn d
 simp only[Xaa.f]
 exact lf_thenE (G:=fun u k=>(XD.f k d u).bind fun v=>if v<0 then some (-1) else some v) (by omega) (by omega) h1 (Ev.of_eq (szWordS_eq w t h0 h1 hw)) (fun u u0 u1=>lf_lastE (by omega) (szDescS_ev d hd.1 hd.2 u u0 u1))
theorem szMachine_ev (w:List lWord) (d:List lDesc) (t:List lThread) (n:Int) (c:List lCall) (p q:List Int) (s m:Int) (h0:0≤m) (h1:m≤1048576) (hw:w.length≤9223372036854775807) (hd:wfDs d) (ht:wfTs t) (hc:wfCs c) (hp:p.length≤9223372036854775807) (hq:q.length≤9223372036854775807) :
  Ev (fun k=>XO.f k w d t n c p q s m) (lf (wtMem w d+wtTail t c p q) m):=by
 have c1:=ctl_nonneg wtDesc_nn d
 have c2:=ctl_nonneg wtThread_nn t
 have c3:=ctl_nonneg wtCall_nn c
 simp only[XO.f]
 unfold wtTail
 refine lf_thenE (G:=fun u k=>(Xi.f k t u).bind fun v=>if v<0 then some (-1) else (Xs.f k c v).bind fun x=>if x<0 then some (-1) else (XM.f p x).bind fun y=>if y<0 then some (-1) else (XP.f q s y).bind fun z=>if z<0 then some (-1) else some z) (by unfold wtMem;omega) (by omega) h1 (szMem_ev w d m h0 h1 hw hd) (fun u u0 u1 => ?_)
 refine lf_thenE (G:=fun v k=>(Xs.f k c v).bind fun x=>if x<0 then some (-1) else (XM.f p x).bind fun y=>if y<0 then some (-1) else (XP.f q s y).bind fun z=>if z<0 then some (-1) else some z) (by omega) (by omega) u1 (szThreadS_ev t ht.1 ht.2 u u0 u1) (fun v v0 v1 => ?_)
 refine lf_thenE (G:=fun x k=>(XM.f p x).bind fun y=>if y<0 then some (-1) else (XP.f q s y).bind fun z=>if z<0 then some (-1) else some z) (by omega) (by omega) v1 (szCallS_ev c hc.1 hc.2 v v0 v1) (fun x x0 x1 => ?_)
 refine lf_thenE (G:=fun y k=>(XP.f q s y).bind fun z=>if z<0 then some (-1) else some z) (by omega) (by omega) x1 (Ev.of_eq (szIntS_eq p x x0 x1 hp)) (fun y y0 y1 => ?_)
 refine lf_lastE (by omega) (Ev.of_eq ?_)
 simp only[XP.f]
 rw[szIntS_eq q y y0 y1 hq,Option.bind_some]
 exact lf_last (by omega)
theorem toMachine_ev (w:List lWord) (d:List lDesc) (t:List lThread) (n:Int) (c:List lCall) (p q:List Int) (s:Int) (h:wtMem w d+wtTail t c p q≤1048576) :
  Ev (fun k=>Xy.f k w d t n c p q s) (w.map cWord,d.map cDesc,t.map cThread,n,c.map cCall,p,q,s):=by
 have c1:=ctl_nonneg wtDesc_nn d
 have c2:=ctl_nonneg wtThread_nn t
 have c3:=ctl_nonneg wtCall_nn c
 unfold wtMem wtTail at h
 have hm:Ev (fun k=>Xab.f k w d) (w.map cWord,d.map cDesc):=by
  simp only[Xab.f]
  exact Ev.bind (toWordS_ev w (by omega)) (Ev.bind (toDescS_ev d (by omega) (by omega)) (Ev.now _))
 have hr:Ev (fun k=>X0.f k q s) (q,s):=by
  simp only[X0.f]
  exact Ev.bind (toIntS_ev q (by omega)) (Ev.now _)
 simp only[Xy.f]
 exact Ev.bind hm (Ev.bind (toThreadS_ev t (by omega) (by omega)) (Ev.bind (toCallS_ev c (by omega) (by omega)) (Ev.bind (toIntS_ev p (by omega)) (Ev.bind hr (Ev.now _)))))
theorem small_all {τ σ:Type} {ct:τ→Int} {f:τ→σ} {sm:σ→Prop} (hn:∀ x,0≤ct x) (hs:∀ x,ct x≤1048576→sm (f x)) {l:List τ} (h:ctl ct l≤1048576):∀ y ∈ l.map f,sm y:=fun y hy=>by
 obtain⟨x,hx,rfl⟩:=List.mem_map.mp hy
 exact hs x (Int.le_trans (ctl_mem hn hx) h)
theorem eqMachine_ev (w:List lWord) (d:List lDesc) (t:List lThread) (n:Int) (c:List lCall) (p q:List Int) (s:Int) (h:wtMem w d+wtTail t c p q≤1048576) :
  Ev (fun k=>XU.f k (w.map cWord) (d.map cDesc) (t.map cThread) n (c.map cCall) p q s (w.map cWord) (d.map cDesc) (t.map cThread) n (c.map cCall) p q s) true:=by
 have c1:=ctl_nonneg wtDesc_nn d
 have c2:=ctl_nonneg wtThread_nn t
 have c3:=ctl_nonneg wtCall_nn c
 unfold wtMem wtTail at h
 have hm:Ev (fun k=>Xac.f k (w.map cWord) (d.map cDesc) (w.map cWord) (d.map cDesc)) true:=by
  simp only[Xac.f]
  refine Ev.bind (eqWordS_ev _ (by rw[List.length_map];omega)) ?_
  simp only[if_true]
  refine Ev.bind (eqDescS_ev _ (by rw[List.length_map];omega) (small_all wtDesc_nn smDesc_of (by omega))) ?_
  simp only[if_true]
  exact Ev.now _
 have hr:Ev (fun k=>X1.f k q s q s) true:=by
  simp only[X1.f]
  refine Ev.bind (eqIntS_ev q (by omega)) ?_
  simp only[if_true]
  exact Ev.now _
 simp only[XU.f]
 refine Ev.bind hm ?_
 simp only[if_true]
 refine Ev.bind (eqThreadS_ev _ (by rw[List.length_map];omega) (small_all wtThread_nn smThread_of (by omega))) ?_
 simp only[if_true]
 refine Ev.bind (eqCallS_ev _ (by rw[List.length_map];omega) (small_all wtCall_nn smCall_of (by omega))) ?_
 simp only[if_true]
 refine Ev.bind (eqIntS_ev p (by omega)) ?_
 simp only[if_true]
 refine Ev.bind hr ?_
 simp only[if_true]
 exact Ev.now _
end Go.Proofs.Yteamagejhbkhnaa.P
