/- A part of the proof of the law FnExactTold: texts of this seat, merged (words, printed functions of the program, plain lemmas). Conditions: none of its own. -/
import Derived.Test.YteamagejhbkhnaaPkFnExactTold20
set_option linter.unusedSimpArgs false
set_option linter.unusedVariables false
set_option maxHeartbeats 8000000
set_option maxRecDepth 100000
namespace Go.Proofs.Yteamagejhbkhnaa.P
open Go.Proofs.YteamagejhbkhnaaZ Go.RowKit Go.Proofs.YteamagejhbkhnaaW.PrintWords Go.Proofs.YteamagejhbkhnaaW.PrintLast Go.Proofs.YteamagejhbkhnaaW.PrintMore
attribute [local go_sem] max2_int min2_int max_two min_two max_three min_three max_four min_four   -- for this text's walks alone
def XO.f (k:Nat) (l0_0:List (S172)) (l0_1:List (S165)) (l0_2:List (S139)) (a0_3:Int) (l0_4:List (S53)) (l0_5:List Int) (l0_6:List Int) (a0_7:Int) (a1:Int):Option (Int):=(Xaa.f k l0_0 l0_1 a1).bind fun t102=>(if t102<0 then (some (-1)) else ((Xi.f k l0_2 t102).bind fun t103=>(if t103<0 then (some (-1)) else ((Xs.f k l0_4 t103).bind fun t104=>(if t104<0 then (some (-1)) else ((XM.f l0_5 t104).bind fun t105=>(if t105<0 then (some (-1)) else ((XP.f l0_6 a0_7 t105).bind fun t106=>(if t106<0 then (some (-1)) else (some t106))))))))))
theorem XO.calls (k:Nat) (A0_0:Option Addr) (c0_0:Nat) (l0_0:List (S172)) (A0_1:Option Addr) (c0_1:Nat) (l0_1:List (S165)) (A0_2:Option Addr) (c0_2:Nat) (l0_2:List (S139)) (a0_3:Int) (A0_4:Option Addr) (c0_4:Nat) (l0_4:List (S53)) (A0_5:Option Addr) (c0_5:Nat) (l0_5:List Int) (A0_6:Option Addr) (c0_6:Nat) (l0_6:List Int) (a0_7:Int) (a1:Int) (r:Int) (w:World) (hr0_0:Kd.C k172 w A0_0 l0_0.length l0_0) (hc0_0:l0_0.length≤c0_0) (hr0_1:Kd.C k165 w A0_1 l0_1.length l0_1) (hc0_1:l0_1.length≤c0_1) (hr0_2:Kd.C k139 w A0_2 l0_2.length l0_2) (hc0_2:l0_2.length≤c0_2) (hr0_4:Kd.C k53 w A0_4 l0_4.length l0_4) (hc0_4:l0_4.length≤c0_4) (hr0_5:Kd.C (Kd.int .i64) w A0_5 l0_5.length l0_5) (hc0_5:l0_5.length≤c0_5) (hr0_6:Kd.C (Kd.int .i64) w A0_6 l0_6.length l0_6) (hc0_6:l0_6.length≤c0_6) (h:XO.f k l0_0 l0_1 l0_2 a0_3 l0_4 l0_5 l0_6 a0_7 a1=some r) :
  Calls Try.prog 66 #[.agg #[.slice A0_0 l0_0.length c0_0,.slice A0_1 l0_1.length c0_1,.slice A0_2 l0_2.length c0_2,.int .i64 a0_3,.slice A0_4 l0_4.length c0_4,.slice A0_5 l0_5.length c0_5,.slice A0_6 l0_6.length c0_6,.int .i64 a0_7],.int .i64 a1] w fun e w'=>e = .returned (.int .i64 r)∧Below w.heap.size w w':=by
 have hu78:=Try.underlying78
 have hu75:=Try.underlying75
 have hu62:=Try.underlying62
 have HR0_0:=Aside0.mk hr0_0
 have HC0_0:=Aside0.mk hc0_0
 clear hr0_0 hc0_0
 have HR0_1:=Aside0.mk hr0_1
 have HC0_1:=Aside0.mk hc0_1
 clear hr0_1 hc0_1
 have HR0_2:=Aside0.mk hr0_2
 have HC0_2:=Aside0.mk hc0_2
 clear hr0_2 hc0_2
 have HR0_4:=Aside0.mk hr0_4
 have HC0_4:=Aside0.mk hc0_4
 clear hr0_4 hc0_4
 have HR0_5:=Aside0.mk hr0_5
 have HC0_5:=Aside0.mk hc0_5
 clear hr0_5 hc0_5
 have HR0_6:=Aside0.mk hr0_6
 have HC0_6:=Aside0.mk hc0_6
 clear hr0_6 hc0_6
 have HB:=Aside0.mk (Below.refl w.heap.size w)
 have H:=h
 unfold XO.f at H
 clear h
 replace H:=bE H;obtain⟨t102,A3,H⟩:=H
 go_enter Try.func66,Try.ntmps66
 go_wp2_with (first | ((with_reducible refine gate_dst (N:=2) rfl ?_);refine boxE 2 #[.slice A0_0 l0_0.length c0_0,.slice A0_1 l0_1.length c0_1,.slice A0_2 l0_2.length c0_2,.int .i64 a0_3,.slice A0_4 l0_4.length c0_4,.slice A0_5 l0_5.length c0_5,.slice A0_6 l0_6.length c0_6,.int .i64 a0_7] 78 ?_;intro gbz1 hg wz1 hbox hb;have BKz1:=Aside0.mk (hbox);have GWz1:=Aside0.mk (gX' hg (hX HB.out));have GEz1:=Aside0.mk (gX' hg (hX HB.out));replace HB:=Aside0.mk (below_step (hX HB.out) hb);clear hb hbox hg;obtain⟨hczz1,hczz2,hczz3,hczz4,hczz5,hczz6,hczz7,hczz8,hfzz1,hfzz2,hfzz3,hfzz4,hfzz5,hfzz6,hfzz7,hfzz8⟩:=cZ8 BKz1.out;refine Stop.out ?_))
 refine⟨?_⟩
 by_cases c4:t102<0
 ·rw[if_pos c4] at H
  have c4b0:=decide_eq_true c4
  clear c4
  obtain rfl:=Option.some.inj H
  go_wp2_with (first | ((with_reducible refine gate_callee (f:=115) rfl ?_);refine goesM 115 8 Try.func115 #[.agg #[.slice A0_0 l0_0.length c0_0,.slice A0_1 l0_1.length c0_1],.int .i64 a1] ?_;refine(Xaa.calls k _ _ l0_0 _ _ l0_1 a1 t102 _ (cC HR0_0.out HB.out) HC0_0.out (cC HR0_1.out HB.out) HC0_1.out A3.out).mono ?_;rintro e wz2 ⟨rfl,hb⟩;refine⟨_,rfl,?_⟩;replace BKz1:=Aside0.mk (blk_below (bX BKz1.out) hb);replace HB:=Aside0.mk (below_step (hX HB.out) hb);clear hb))
  go_ret
  exact⟨rE,(hX HB.out)⟩
 ·rw[if_neg c4] at H
  have c4b0:=decide_eq_false c4
  clear c4
  replace H:=bE H;obtain⟨t103,A8,H⟩:=H
  go_wp2_with (first | ((with_reducible refine gate_callee (f:=115) rfl ?_);refine goesM 115 8 Try.func115 #[.agg #[.slice A0_0 l0_0.length c0_0,.slice A0_1 l0_1.length c0_1],.int .i64 a1] ?_;refine(Xaa.calls k _ _ l0_0 _ _ l0_1 a1 t102 _ (cC HR0_0.out HB.out) HC0_0.out (cC HR0_1.out HB.out) HC0_1.out A3.out).mono ?_;rintro e wz2 ⟨rfl,hb⟩;refine⟨_,rfl,?_⟩;replace BKz1:=Aside0.mk (blk_below (bX BKz1.out) hb);replace HB:=Aside0.mk (below_step (hX HB.out) hb);clear hb;obtain⟨hczz9,hczz10,hczz11,hczz12,hczz13,hczz14,hczz15,hczz16,hfzz9,hfzz10,hfzz11,hfzz12,hfzz13,hfzz14,hfzz15,hfzz16⟩:=cZ8 BKz1.out;refine Stop.out ?_))
  refine⟨?_⟩
  by_cases c9:t103<0
  ·rw[if_pos c9] at H
   have c9b0:=decide_eq_true c9
   clear c9
   obtain rfl:=Option.some.inj H
   go_wp2_with (first | ((with_reducible refine gate_callee (f:=116) rfl ?_);refine goesM 116 14 Try.func116 #[.slice A0_2 l0_2.length c0_2,.int .i64 t102] ?_;refine(Xi.calls k _ _ l0_2 t102 t103 _ (cC HR0_2.out HB.out) HC0_2.out A8.out).mono ?_;rintro e wz3 ⟨rfl,hb⟩;refine⟨_,rfl,?_⟩;replace BKz1:=Aside0.mk (blk_below (bX BKz1.out) hb);replace HB:=Aside0.mk (below_step (hX HB.out) hb);clear hb))
   go_ret
   exact⟨rE,(hX HB.out)⟩
  ·rw[if_neg c9] at H
   have c9b0:=decide_eq_false c9
   clear c9
   replace H:=bE H;obtain⟨t104,A15,H⟩:=H
   go_wp2_with (first | ((with_reducible refine gate_callee (f:=116) rfl ?_);refine goesM 116 14 Try.func116 #[.slice A0_2 l0_2.length c0_2,.int .i64 t102] ?_;refine(Xi.calls k _ _ l0_2 t102 t103 _ (cC HR0_2.out HB.out) HC0_2.out A8.out).mono ?_;rintro e wz3 ⟨rfl,hb⟩;refine⟨_,rfl,?_⟩;replace BKz1:=Aside0.mk (blk_below (bX BKz1.out) hb);replace HB:=Aside0.mk (below_step (hX HB.out) hb);clear hb;obtain⟨hczz17,hczz18,hczz19,hczz20,hczz21,hczz22,hczz23,hczz24,hfzz17,hfzz18,hfzz19,hfzz20,hfzz21,hfzz22,hfzz23,hfzz24⟩:=cZ8 BKz1.out;refine Stop.out ?_))
   refine⟨?_⟩
   by_cases c16:t104<0
   ·rw[if_pos c16] at H
    have c16b0:=decide_eq_true c16
    clear c16
    obtain rfl:=Option.some.inj H
    go_wp2_with (first | ((with_reducible refine gate_callee (f:=60) rfl ?_);refine goesM 60 20 Try.func60 #[.slice A0_4 l0_4.length c0_4,.int .i64 t103] ?_;refine(Xs.calls k _ _ l0_4 t103 t104 _ (cC HR0_4.out HB.out) HC0_4.out A15.out).mono ?_;rintro e wz4 ⟨rfl,hb⟩;refine⟨_,rfl,?_⟩;replace BKz1:=Aside0.mk (blk_below (bX BKz1.out) hb);replace HB:=Aside0.mk (below_step (hX HB.out) hb);clear hb))
    go_ret
    exact⟨rE,(hX HB.out)⟩
   ·rw[if_neg c16] at H
    have c16b0:=decide_eq_false c16
    clear c16
    replace H:=bE H;obtain⟨t105,A24,H⟩:=H
    go_wp2_with (first | ((with_reducible refine gate_callee (f:=60) rfl ?_);refine goesM 60 20 Try.func60 #[.slice A0_4 l0_4.length c0_4,.int .i64 t103] ?_;refine(Xs.calls k _ _ l0_4 t103 t104 _ (cC HR0_4.out HB.out) HC0_4.out A15.out).mono ?_;rintro e wz4 ⟨rfl,hb⟩;refine⟨_,rfl,?_⟩;replace BKz1:=Aside0.mk (blk_below (bX BKz1.out) hb);replace HB:=Aside0.mk (below_step (hX HB.out) hb);clear hb;obtain⟨hczz25,hczz26,hczz27,hczz28,hczz29,hczz30,hczz31,hczz32,hfzz25,hfzz26,hfzz27,hfzz28,hfzz29,hfzz30,hfzz31,hfzz32⟩:=cZ8 BKz1.out) | ((with_reducible refine gate_callee (f:=107) rfl ?_);refine goesM 107 26 Try.func107 #[.slice A0_5 l0_5.length c0_5,.int .i64 t104] ?_;refine(XM.calls _ _ l0_5 t104 t105 _ (cC HR0_5.out HB.out) HC0_5.out A24.out).mono ?_;rintro e w' ⟨rfl,⟨nd,rfl⟩⟩;refine⟨_,rfl,?_⟩;refine Stop.out ?_))
    refine⟨?_⟩
    by_cases c25:t105<0
    ·rw[if_pos c25] at H
     have c25b0:=decide_eq_true c25
     clear c25
     obtain rfl:=Option.some.inj H
     go_wp2
     go_ret
     exact⟨rE,(hX HB.out)⟩
    ·rw[if_neg c25] at H
     have c25b0:=decide_eq_false c25
     clear c25
     replace H:=bE H;obtain⟨t106,A34,H⟩:=H
     go_wp2_with (first | ((with_reducible refine gate_callee (f:=59) rfl ?_);refine goesM 59 32 Try.func59 #[.agg #[.slice A0_6 l0_6.length c0_6,.int .i64 a0_7],.int .i64 t105] ?_;refine(XP.calls _ _ l0_6 a0_7 t105 t106 _ (cC HR0_6.out HB.out) HC0_6.out A34.out).mono ?_;rintro e wz5 ⟨rfl,hb⟩;refine⟨_,rfl,?_⟩;replace BKz1:=Aside0.mk (blk_below (bX BKz1.out) hb);replace HB:=Aside0.mk (below_step (hX HB.out) hb);clear hb;refine Stop.out ?_))
     refine⟨?_⟩
     by_cases c35:t106<0
     ·rw[if_pos c35] at H
      have c35b0:=decide_eq_true c35
      clear c35
      obtain rfl:=Option.some.inj H
      go_wp2
      go_ret
      exact⟨rE,(hX HB.out)⟩
     ·rw[if_neg c35] at H
      have c35b0:=decide_eq_false c35
      clear c35
      obtain rfl:=Option.some.inj H
      go_wp2
      go_ret
      exact⟨rE,(hX HB.out)⟩
def Xy.f (k:Nat) (l0_0:List (S172)) (l0_1:List (S165)) (l0_2:List (S139)) (a0_3:Int) (l0_4:List (S53)) (l0_5:List Int) (l0_6:List Int) (a0_7:Int):Option ((List (S170)) × (List (S175)) × (List (S146)) × Int × (List (S59)) × List Int × List Int × Int):=(Xab.f k l0_0 l0_1).bind fun bt104=>((Xj.f k l0_2).bind fun t110=>((Xu.f k l0_4).bind fun t113=>((Xq.f k l0_5).bind fun t116=>((X0.f k l0_6 a0_7).bind fun bt119=>(some (bt104.1,bt104.2,t110,a0_3,t113,t116,bt119.1,bt119.2))))))
theorem Xy.calls (k:Nat) (A0_0:Option Addr) (c0_0:Nat) (l0_0:List (S172)) (A0_1:Option Addr) (c0_1:Nat) (l0_1:List (S165)) (A0_2:Option Addr) (c0_2:Nat) (l0_2:List (S139)) (a0_3:Int) (A0_4:Option Addr) (c0_4:Nat) (l0_4:List (S53)) (A0_5:Option Addr) (c0_5:Nat) (l0_5:List Int) (A0_6:Option Addr) (c0_6:Nat) (l0_6:List Int) (a0_7:Int) (r1:List (S170)) (r2:List (S175)) (r3:List (S146)) (r4:Int) (r5:List (S59)) (r6:List Int) (r7:List Int) (r8:Int) (w:World) (hr0_0:Kd.C k172 w A0_0 l0_0.length l0_0) (hc0_0:l0_0.length≤c0_0) (hr0_1:Kd.C k165 w A0_1 l0_1.length l0_1) (hc0_1:l0_1.length≤c0_1) (hr0_2:Kd.C k139 w A0_2 l0_2.length l0_2) (hc0_2:l0_2.length≤c0_2) (hr0_4:Kd.C k53 w A0_4 l0_4.length l0_4) (hc0_4:l0_4.length≤c0_4) (hr0_5:Kd.C (Kd.int .i64) w A0_5 l0_5.length l0_5) (hc0_5:l0_5.length≤c0_5) (hr0_6:Kd.C (Kd.int .i64) w A0_6 l0_6.length l0_6) (hc0_6:l0_6.length≤c0_6) (h:Xy.f k l0_0 l0_1 l0_2 a0_3 l0_4 l0_5 l0_6 a0_7=some (r1,r2,r3,r4,r5,r6,r7,r8)) :
  Calls Try.prog 68 #[.agg #[.slice A0_0 l0_0.length c0_0,.slice A0_1 l0_1.length c0_1,.slice A0_2 l0_2.length c0_2,.int .i64 a0_3,.slice A0_4 l0_4.length c0_4,.slice A0_5 l0_5.length c0_5,.slice A0_6 l0_6.length c0_6,.int .i64 a0_7]] w fun e w'=>∃ v0_ v1_ v2_ v4_ v5_ v6_:Value,e = .returned (.agg #[v0_,v1_,v2_,.int .i64 r4,v4_,v5_,v6_,.int .i64 r8])∧Kd.R k170 170 w' w.heap.size (fun _=>True) v0_ r1∧Kd.S k175 175 w' w.heap.size (fun k_=>some k_ ≠ (v5_:Value).ownBlock∧some k_ ≠ (v6_:Value).ownBlock) v1_ r2∧Kd.S k146 146 w' w.heap.size (fun _=>True) v2_ r3∧Kd.S k59 59 w' w.heap.size (fun k_=>some k_ ≠ (v5_:Value).ownBlock∧some k_ ≠ (v6_:Value).ownBlock) v4_ r5∧Kd.R (Kd.int .i64) 3 w' w.heap.size (fun k_=>some k_ ≠ (v6_:Value).ownBlock) v5_ r6∧Kd.R (Kd.int .i64) 3 w' w.heap.size (fun k_=>some k_ ≠ (v5_:Value).ownBlock) v6_ r7∧Below w.heap.size w w':=by
 have hu78:=Try.underlying78
 have hu87:=Try.underlying87
 have hu75:=Try.underlying75
 have hu84:=Try.underlying84
 have hu62:=Try.underlying62
 have hu24:=Try.underlying24
 have HR0_0:=Aside0.mk hr0_0
 have HC0_0:=Aside0.mk hc0_0
 clear hr0_0 hc0_0
 have HR0_1:=Aside0.mk hr0_1
 have HC0_1:=Aside0.mk hc0_1
 clear hr0_1 hc0_1
 have HR0_2:=Aside0.mk hr0_2
 have HC0_2:=Aside0.mk hc0_2
 clear hr0_2 hc0_2
 have HR0_4:=Aside0.mk hr0_4
 have HC0_4:=Aside0.mk hc0_4
 clear hr0_4 hc0_4
 have HR0_5:=Aside0.mk hr0_5
 have HC0_5:=Aside0.mk hc0_5
 clear hr0_5 hc0_5
 have HR0_6:=Aside0.mk hr0_6
 have HC0_6:=Aside0.mk hc0_6
 clear hr0_6 hc0_6
 have HB:=Aside0.mk (Below.refl w.heap.size w)
 have H:=h
 unfold Xy.f at H
 clear h
 replace H:=bE H;obtain⟨⟨t104,t107⟩,A2,H⟩:=H
 try dsimp only at H
 replace H:=bE H;obtain⟨t110,A3,H⟩:=H
 replace H:=bE H;obtain⟨t113,A4,H⟩:=H
 replace H:=bE H;obtain⟨t116,A5,H⟩:=H
 replace H:=bE H;obtain⟨⟨t119,t122⟩,A6,H⟩:=H
 try dsimp only at H
 simp only[Option.some.injEq,Prod.mk.injEq] at H
 obtain⟨rfl,rfl,rfl,rfl,rfl,rfl,rfl,rfl⟩:=H
 go_enter Try.func68,Try.ntmps68
 go_wp2_with (first | ((with_reducible refine gate_dst (N:=1) rfl ?_);refine boxE 1 #[.slice A0_0 l0_0.length c0_0,.slice A0_1 l0_1.length c0_1,.slice A0_2 l0_2.length c0_2,.int .i64 a0_3,.slice A0_4 l0_4.length c0_4,.slice A0_5 l0_5.length c0_5,.slice A0_6 l0_6.length c0_6,.int .i64 a0_7] 78 ?_;intro gbz1 hg wz1 hbox hb;have BKz1:=Aside0.mk (hbox);have GWz1:=Aside0.mk (gX' hg (hX HB.out));have GEz1:=Aside0.mk (gX' hg (hX HB.out));replace HB:=Aside0.mk (below_step (hX HB.out) hb);clear hb hbox hg) | ((with_reducible refine gate_dst (N:=2) rfl ?_);refine boxE 2 #[.slice none 0 0,.slice none 0 0,.slice none 0 0,.int .i64 0,.slice none 0 0,.slice none 0 0,.slice none 0 0,.int .i64 0] 87 ?_;intro gbz2 hg wz2 hbox hb;have BKz2:=Aside0.mk (hbox);have GWz2:=Aside0.mk (gX' hg (hX HB.out));have GEz2:=Aside0.mk (gX' hg (hX HB.out));have NBz1:=Aside0.mk (gL hg (bX BKz1.out));have NBz2:=Aside0.mk (gG hg (bX BKz1.out));replace BKz1:=Aside0.mk (blk_below (bX BKz1.out) hb);replace HB:=Aside0.mk (below_step (hX HB.out) hb);clear hb hbox hg) | ((with_reducible refine gate_dst (N:=3) rfl ?_);refine boxE 3 #[.slice none 0 0,.slice none 0 0,.slice none 0 0,.int .i64 0,.slice none 0 0,.slice none 0 0,.slice none 0 0,.int .i64 0] 87 ?_;intro gbz3 hg wz3 hbox hb;have BKz3:=Aside0.mk (hbox);have GWz3:=Aside0.mk (gX' hg (hX HB.out));have GEz3:=Aside0.mk (gX' hg (hX HB.out));have NBz3:=Aside0.mk (gL hg (bX BKz1.out));have NBz4:=Aside0.mk (gG hg (bX BKz1.out));have NBz5:=Aside0.mk (gL hg (bX BKz2.out));have NBz6:=Aside0.mk (gG hg (bX BKz2.out));replace BKz1:=Aside0.mk (blk_below (bX BKz1.out) hb);replace BKz2:=Aside0.mk (blk_below (bX BKz2.out) hb);replace HB:=Aside0.mk (below_step (hX HB.out) hb);clear hb hbox hg;have hnbz1:=NBz1.out;have hncz1:=NBz2.out;have hnbz2:=NBz3.out;have hncz2:=NBz4.out;obtain⟨hczz1,hczz2,hczz3,hczz4,hczz5,hczz6,hczz7,hczz8,hfzz1,hfzz2,hfzz3,hfzz4,hfzz5,hfzz6,hfzz7,hfzz8⟩:=cZ8 BKz1.out) | ((with_reducible refine gate_callee (f:=117) rfl ?_);refine goesM 117 6 Try.func117 #[.agg #[.slice A0_0 l0_0.length c0_0,.slice A0_1 l0_1.length c0_1]] ?_;refine(Xab.calls k _ _ l0_0 _ _ l0_1 t104 t107 _ (cC HR0_0.out HB.out) HC0_0.out (cC HR0_1.out HB.out) HC0_1.out A2.out).mono ?_;rintro e wz4 ⟨vz1,vz2,rfl,hoz1,hoz2,hb⟩;refine⟨_,rfl,?_⟩;have HOz1:=Aside0.mk (Kd.R_lower hoz1 (below_size (hX HB.out)));have HOz2:=Aside0.mk (Kd.S_lower hoz2 (below_size (hX HB.out)));replace BKz1:=Aside0.mk (blk_below (bX BKz1.out) hb);replace BKz2:=Aside0.mk (blk_below (bX BKz2.out) hb);replace BKz3:=Aside0.mk (blk_below (bX BKz3.out) hb);replace HB:=Aside0.mk (below_step (hX HB.out) hb);clear hb hoz1 hoz2;obtain⟨Aoz1,coz1,eoz1⟩:=Kd.R_slice HOz1.out;subst eoz1;have hnbz3:=NBz6.out;have hncz3:=NBz5.out;obtain⟨hczz9,hczz10,hczz11,hczz12,hczz13,hczz14,hczz15,hczz16,hfzz9,hfzz10,hfzz11,hfzz12,hfzz13,hfzz14,hfzz15,hfzz16⟩:=cZ8 BKz3.out;obtain⟨Aoz2,coz2,eoz2⟩:=Kd.S_slice HOz2.out;subst eoz2;obtain⟨hczz17,hczz18,hczz19,hczz20,hczz21,hczz22,hczz23,hczz24,hfzz17,hfzz18,hfzz19,hfzz20,hfzz21,hfzz22,hfzz23,hfzz24⟩:=cZ8 BKz1.out) | ((with_reducible refine gate_callee (f:=118) rfl ?_);refine goesM 118 10 Try.func118 #[.slice A0_2 l0_2.length c0_2] ?_;refine(Xj.calls k _ _ l0_2 t110 _ (by exact Kd.C_below HR0_2.out (hX HB.out)) HC0_2.out A3.out).mono ?_;rintro e wz5 ⟨vz3,rfl,hoz1,hb⟩;refine⟨_,rfl,?_⟩;have HOz3:=Aside0.mk (Kd.S_lower hoz1 (below_size (hX HB.out)));replace HOz1:=Aside0.mk (Kd.R_below (rT (h:=by exact(Kd.R_mono (Kd.R_far (p:=⟨gbz3,1,none⟩) (Kd.R_far (p:=⟨gbz3,0,none⟩) (Kd.R_types HOz1.out BKz3.out (by decide)) (fun _ hk=>hk.2) (.slice Aoz1 t104.length coz1)) (fun _ hk=>hk.2) (.slice Aoz2 t107.length coz2)) (fun _ h_=>h_.1)))) hb);replace HOz2:=Aside0.mk (Kd.S_below (by (with_reducible repeat (first | apply Kd.S_alloc | apply Kd.S_drewN | apply Kd.S_drew));exact(Kd.S_mono (Kd.S_far (p:=⟨gbz3,1,none⟩) (Kd.S_far (p:=⟨gbz3,0,none⟩) (Kd.S_types HOz2.out BKz3.out (by decide)) (fun _ hk=>hk.2) (.slice Aoz1 t104.length coz1)) (fun _ hk=>hk.2) (.slice Aoz2 t107.length coz2)) (fun _ h_=>h_.1))) hb);replace BKz1:=Aside0.mk (blk_below (bF BKz1.out) hb);replace BKz2:=Aside0.mk (blk_below (bF BKz2.out) hb);replace BKz3:=Aside0.mk (blk_below (g:=gbz3) (o:=.cells #[.slice Aoz1 t104.length coz1,.slice Aoz2 t107.length coz2,.slice none 0 0,.int .i64 0,.slice none 0 0,.slice none 0 0,.slice none 0 0,.int .i64 0] 87 (0,0)) (bP BKz3.out) hb);replace HB:=Aside0.mk (below_step (hX HB.out) hb);clear hb hoz1;obtain⟨Aoz3,coz3,eoz3⟩:=Kd.S_slice HOz3.out;subst eoz3;obtain⟨hczz25,hczz26,hczz27,hczz28,hczz29,hczz30,hczz31,hczz32,hfzz25,hfzz26,hfzz27,hfzz28,hfzz29,hfzz30,hfzz31,hfzz32⟩:=cZ8 BKz3.out;obtain⟨hczz33,hczz34,hczz35,hczz36,hczz37,hczz38,hczz39,hczz40,hfzz33,hfzz34,hfzz35,hfzz36,hfzz37,hfzz38,hfzz39,hfzz40⟩:=cZ8 BKz1.out) | ((with_reducible refine gate_callee (f:=63) rfl ?_);refine goesM 63 17 Try.func63 #[.slice A0_4 l0_4.length c0_4] ?_;refine(Xu.calls k _ _ l0_4 t113 _ (by exact Kd.C_below HR0_4.out (hX HB.out)) HC0_4.out A4.out).mono ?_;rintro e wz6 ⟨vz4,rfl,hoz1,hb⟩;refine⟨_,rfl,?_⟩;have HOz4:=Aside0.mk (Kd.S_lower hoz1 (below_size (hX HB.out)));replace HOz1:=Aside0.mk (Kd.R_below (rT (h:=by exact(Kd.R_mono (Kd.R_far (p:=⟨gbz3,3,none⟩) (Kd.R_far (p:=⟨gbz3,2,none⟩) (Kd.R_types HOz1.out BKz3.out (by decide)) (fun _ hk=>hk.2) (.slice Aoz3 t110.length coz3)) (fun _ hk=>hk.2) (.int .i64 a0_3)) (fun _ h_=>h_.1)))) hb);replace HOz2:=Aside0.mk (Kd.S_below (by (with_reducible repeat (first | apply Kd.S_alloc | apply Kd.S_drewN | apply Kd.S_drew));exact(Kd.S_mono (Kd.S_far (p:=⟨gbz3,3,none⟩) (Kd.S_far (p:=⟨gbz3,2,none⟩) (Kd.S_types HOz2.out BKz3.out (by decide)) (fun _ hk=>hk.2) (.slice Aoz3 t110.length coz3)) (fun _ hk=>hk.2) (.int .i64 a0_3)) (fun _ h_=>h_.1))) hb);replace HOz3:=Aside0.mk (Kd.S_below (by (with_reducible repeat (first | apply Kd.S_alloc | apply Kd.S_drewN | apply Kd.S_drew));exact(Kd.S_mono (Kd.S_far (p:=⟨gbz3,3,none⟩) (Kd.S_far (p:=⟨gbz3,2,none⟩) (Kd.S_types HOz3.out BKz3.out (by decide)) (fun _ hk=>hk.2) (.slice Aoz3 t110.length coz3)) (fun _ hk=>hk.2) (.int .i64 a0_3)) (fun _ h_=>h_.1))) hb);replace BKz1:=Aside0.mk (blk_below (bF BKz1.out) hb);replace BKz2:=Aside0.mk (blk_below (bF BKz2.out) hb);replace BKz3:=Aside0.mk (blk_below (g:=gbz3) (o:=.cells #[.slice Aoz1 t104.length coz1,.slice Aoz2 t107.length coz2,.slice Aoz3 t110.length coz3,.int .i64 a0_3,.slice none 0 0,.slice none 0 0,.slice none 0 0,.int .i64 0] 87 (0,0)) (bP BKz3.out) hb);replace HB:=Aside0.mk (below_step (hX HB.out) hb);clear hb hoz1;obtain⟨Aoz4,coz4,eoz4⟩:=Kd.S_slice HOz4.out;subst eoz4;obtain⟨hczz41,hczz42,hczz43,hczz44,hczz45,hczz46,hczz47,hczz48,hfzz41,hfzz42,hfzz43,hfzz44,hfzz45,hfzz46,hfzz47,hfzz48⟩:=cZ8 BKz3.out;obtain⟨hczz49,hczz50,hczz51,hczz52,hczz53,hczz54,hczz55,hczz56,hfzz49,hfzz50,hfzz51,hfzz52,hfzz53,hfzz54,hfzz55,hfzz56⟩:=cZ8 BKz1.out) | ((with_reducible refine gate_callee (f:=14) rfl ?_);refine goesM 14 21 Try.func14 #[.slice A0_5 l0_5.length c0_5] ?_;refine(Xq.calls k _ _ l0_5 t116 _ (by exact Kd.C_below HR0_5.out (hX HB.out)) HC0_5.out A5.out).mono ?_;rintro e wz7 ⟨vz5,rfl,hoz1,hb⟩;refine⟨_,rfl,?_⟩;have HOz5:=Aside0.mk (Kd.R_lower hoz1 (below_size (hX HB.out)));replace HOz1:=Aside0.mk (Kd.R_below (rT (h:=by exact(Kd.R_mono (Kd.R_far (p:=⟨gbz3,4,none⟩) (Kd.R_types HOz1.out BKz3.out (by decide)) (fun _ hk=>hk.2) (.slice Aoz4 t113.length coz4)) (fun _ h_=>h_.1)))) hb);replace HOz2:=Aside0.mk (Kd.S_elder' (by (with_reducible repeat (first | apply Kd.S_alloc | apply Kd.S_drewN | apply Kd.S_drew));exact(Kd.S_mono (Kd.S_far (p:=⟨gbz3,4,none⟩) (Kd.S_types HOz2.out BKz3.out (by decide)) (fun _ hk=>hk.2) (.slice Aoz4 t113.length coz4)) (fun _ h_=>h_.1))) (Kd.R_base hoz1) hb);replace HOz3:=Aside0.mk (Kd.S_below (by (with_reducible repeat (first | apply Kd.S_alloc | apply Kd.S_drewN | apply Kd.S_drew));exact(Kd.S_mono (Kd.S_far (p:=⟨gbz3,4,none⟩) (Kd.S_types HOz3.out BKz3.out (by decide)) (fun _ hk=>hk.2) (.slice Aoz4 t113.length coz4)) (fun _ h_=>h_.1))) hb);replace HOz4:=Aside0.mk (Kd.S_elder' (by (with_reducible repeat (first | apply Kd.S_alloc | apply Kd.S_drewN | apply Kd.S_drew));exact(Kd.S_mono (Kd.S_far (p:=⟨gbz3,4,none⟩) (Kd.S_types HOz4.out BKz3.out (by decide)) (fun _ hk=>hk.2) (.slice Aoz4 t113.length coz4)) (fun _ h_=>h_.1))) (Kd.R_base hoz1) hb);replace BKz1:=Aside0.mk (blk_below (bF BKz1.out) hb);replace BKz2:=Aside0.mk (blk_below (bF BKz2.out) hb);replace BKz3:=Aside0.mk (blk_below (g:=gbz3) (o:=.cells #[.slice Aoz1 t104.length coz1,.slice Aoz2 t107.length coz2,.slice Aoz3 t110.length coz3,.int .i64 a0_3,.slice Aoz4 t113.length coz4,.slice none 0 0,.slice none 0 0,.int .i64 0] 87 (0,0)) (bP BKz3.out) hb);replace HB:=Aside0.mk (below_step (hX HB.out) hb);clear hb hoz1;obtain⟨Aoz5,coz5,eoz5⟩:=Kd.R_slice HOz5.out;subst eoz5;obtain⟨hczz57,hczz58,hczz59,hczz60,hczz61,hczz62,hczz63,hczz64,hfzz57,hfzz58,hfzz59,hfzz60,hfzz61,hfzz62,hfzz63,hfzz64⟩:=cZ8 BKz3.out;obtain⟨hczz65,hczz66,hczz67,hczz68,hczz69,hczz70,hczz71,hczz72,hfzz65,hfzz66,hfzz67,hfzz68,hfzz69,hfzz70,hfzz71,hfzz72⟩:=cZ8 BKz1.out) | ((with_reducible refine gate_callee (f:=62) rfl ?_);refine goesM 62 25 Try.func62 #[.agg #[.slice A0_6 l0_6.length c0_6,.int .i64 a0_7]] ?_;refine(X0.calls k _ _ l0_6 a0_7 t119 t122 _ (by exact Kd.C_below HR0_6.out (hX HB.out)) HC0_6.out A6.out).mono ?_;rintro e wz8 ⟨vz6,rfl,hoz1,hb⟩;refine⟨_,rfl,?_⟩;have HOz6:=Aside0.mk (Kd.R_lower (Kd.R_new' hoz1 (Kd.R_lt (rT (h:=by exact(Kd.R_mono (Kd.R_far (p:=⟨gbz3,5,none⟩) (Kd.R_types HOz5.out BKz3.out (by decide)) (fun _ hk=>hk.2) (.slice Aoz5 t116.length coz5)) (fun _ h_=>h_.1)))))) (below_size (hX HB.out)));replace HOz1:=Aside0.mk (Kd.R_below (rT (h:=by exact(Kd.R_mono (Kd.R_far (p:=⟨gbz3,5,none⟩) (Kd.R_types HOz1.out BKz3.out (by decide)) (fun _ hk=>hk.2) (.slice Aoz5 t116.length coz5)) (fun _ h_=>h_.1)))) hb);replace HOz2:=Aside0.mk (Kd.S_elder' (by (with_reducible repeat (first | apply Kd.S_alloc | apply Kd.S_drewN | apply Kd.S_drew));exact(Kd.S_mono (Kd.S_far (p:=⟨gbz3,5,none⟩) (Kd.S_types HOz2.out BKz3.out (by decide)) (fun _ hk=>hk.2) (.slice Aoz5 t116.length coz5)) (fun _ h_=>h_.1))) (Kd.R_base hoz1) hb);replace HOz3:=Aside0.mk (Kd.S_below (by (with_reducible repeat (first | apply Kd.S_alloc | apply Kd.S_drewN | apply Kd.S_drew));exact(Kd.S_mono (Kd.S_far (p:=⟨gbz3,5,none⟩) (Kd.S_types HOz3.out BKz3.out (by decide)) (fun _ hk=>hk.2) (.slice Aoz5 t116.length coz5)) (fun _ h_=>h_.1))) hb);replace HOz4:=Aside0.mk (Kd.S_elder' (by (with_reducible repeat (first | apply Kd.S_alloc | apply Kd.S_drewN | apply Kd.S_drew));exact(Kd.S_mono (Kd.S_far (p:=⟨gbz3,5,none⟩) (Kd.S_types HOz4.out BKz3.out (by decide)) (fun _ hk=>hk.2) (.slice Aoz5 t116.length coz5)) (fun _ h_=>h_.1))) (Kd.R_base hoz1) hb);replace HOz5:=Aside0.mk (Kd.R_elder' (rT (h:=by exact(Kd.R_mono (Kd.R_far (p:=⟨gbz3,5,none⟩) (Kd.R_types HOz5.out BKz3.out (by decide)) (fun _ hk=>hk.2) (.slice Aoz5 t116.length coz5)) (fun _ h_=>h_.1)))) (Kd.R_base hoz1) hb);replace BKz1:=Aside0.mk (blk_below (bF BKz1.out) hb);replace BKz2:=Aside0.mk (blk_below (bF BKz2.out) hb);replace BKz3:=Aside0.mk (blk_below (g:=gbz3) (o:=.cells #[.slice Aoz1 t104.length coz1,.slice Aoz2 t107.length coz2,.slice Aoz3 t110.length coz3,.int .i64 a0_3,.slice Aoz4 t113.length coz4,.slice Aoz5 t116.length coz5,.slice none 0 0,.int .i64 0] 87 (0,0)) (bP BKz3.out) hb);replace HB:=Aside0.mk (below_step (hX HB.out) hb);clear hb hoz1;obtain⟨Aoz6,coz6,eoz6⟩:=Kd.R_slice HOz6.out;subst eoz6;obtain⟨hczz73,hczz74,hczz75,hczz76,hczz77,hczz78,hczz79,hczz80,hfzz73,hfzz74,hfzz75,hfzz76,hfzz77,hfzz78,hfzz79,hfzz80⟩:=cZ8 BKz3.out;obtain⟨hczz81,hczz82,hczz83,hczz84,hczz85,hczz86,hczz87,hczz88,hfzz81,hfzz82,hfzz83,hfzz84,hfzz85,hfzz86,hfzz87,hfzz88⟩:=cZ8 BKz2.out))
 refine bodyPost_ret (results_cell_row rfl _ _ gbz2 87 #[.slice Aoz1 t104.length coz1,.slice Aoz2 t107.length coz2,.slice Aoz3 t110.length coz3,.int .i64 a0_3,.slice Aoz4 t113.length coz4,.slice Aoz5 t116.length coz5,.slice Aoz6 t119.length coz6,.int .i64 t122] (0,0) _ rfl (bP BKz2.out) Try.underlying87 rfl (by kernel_rfl)) rfl ?_
 exact⟨_,_,_,_,_,_,rE,(rT (h:=by exact Kd.R_mono (Kd.R_far (p:=⟨gbz2,7,none⟩) (Kd.R_far (p:=⟨gbz2,6,none⟩) (Kd.R_far (p:=⟨gbz2,5,none⟩) (Kd.R_far (p:=⟨gbz2,4,none⟩) (Kd.R_far (p:=⟨gbz2,3,none⟩) (Kd.R_far (p:=⟨gbz2,2,none⟩) (Kd.R_far (p:=⟨gbz2,1,none⟩) (Kd.R_far (p:=⟨gbz2,0,none⟩) (Kd.R_far (p:=⟨gbz3,7,none⟩) (Kd.R_far (p:=⟨gbz3,6,none⟩) (Kd.R_types (Kd.R_types HOz1.out BKz3.out (by decide)) BKz2.out (by decide)) (fun _ hk=>hk.1.2) (.slice Aoz6 t119.length coz6)) (fun _ hk=>hk.1.2) (.int .i64 t122)) (fun _ hk=>hk.2) (.slice Aoz1 t104.length coz1)) (fun _ hk=>hk.2) (.slice Aoz2 t107.length coz2)) (fun _ hk=>hk.2) (.slice Aoz3 t110.length coz3)) (fun _ hk=>hk.2) (.int .i64 a0_3)) (fun _ hk=>hk.2) (.slice Aoz4 t113.length coz4)) (fun _ hk=>hk.2) (.slice Aoz5 t116.length coz5)) (fun _ hk=>hk.2) (.slice Aoz6 t119.length coz6)) (fun _ hk=>hk.2) (.int .i64 t122)) (fun _ hk=>trivial))),by (with_reducible repeat (first | apply Kd.S_alloc | apply Kd.S_drewN | apply Kd.S_drew));exact Kd.S_mono (Kd.S_far (p:=⟨gbz2,7,none⟩) (Kd.S_far (p:=⟨gbz2,6,none⟩) (Kd.S_far (p:=⟨gbz2,5,none⟩) (Kd.S_far (p:=⟨gbz2,4,none⟩) (Kd.S_far (p:=⟨gbz2,3,none⟩) (Kd.S_far (p:=⟨gbz2,2,none⟩) (Kd.S_far (p:=⟨gbz2,1,none⟩) (Kd.S_far (p:=⟨gbz2,0,none⟩) (Kd.S_far (p:=⟨gbz3,7,none⟩) (Kd.S_far (p:=⟨gbz3,6,none⟩) (Kd.S_types (Kd.S_types HOz2.out BKz3.out (by decide)) BKz2.out (by decide)) (fun _ hk=>hk.1.2) (.slice Aoz6 t119.length coz6)) (fun _ hk=>hk.1.2) (.int .i64 t122)) (fun _ hk=>hk.2) (.slice Aoz1 t104.length coz1)) (fun _ hk=>hk.2) (.slice Aoz2 t107.length coz2)) (fun _ hk=>hk.2) (.slice Aoz3 t110.length coz3)) (fun _ hk=>hk.2) (.int .i64 a0_3)) (fun _ hk=>hk.2) (.slice Aoz4 t113.length coz4)) (fun _ hk=>hk.2) (.slice Aoz5 t116.length coz5)) (fun _ hk=>hk.2) (.slice Aoz6 t119.length coz6)) (fun _ hk=>hk.2) (.int .i64 t122)) (fun _ hk=>⟨hk.1.1.1.2,hk.1.1.2⟩),by (with_reducible repeat (first | apply Kd.S_alloc | apply Kd.S_drewN | apply Kd.S_drew));exact Kd.S_mono (Kd.S_far (p:=⟨gbz2,7,none⟩) (Kd.S_far (p:=⟨gbz2,6,none⟩) (Kd.S_far (p:=⟨gbz2,5,none⟩) (Kd.S_far (p:=⟨gbz2,4,none⟩) (Kd.S_far (p:=⟨gbz2,3,none⟩) (Kd.S_far (p:=⟨gbz2,2,none⟩) (Kd.S_far (p:=⟨gbz2,1,none⟩) (Kd.S_far (p:=⟨gbz2,0,none⟩) (Kd.S_far (p:=⟨gbz3,7,none⟩) (Kd.S_far (p:=⟨gbz3,6,none⟩) (Kd.S_types (Kd.S_types HOz3.out BKz3.out (by decide)) BKz2.out (by decide)) (fun _ hk=>hk.1.2) (.slice Aoz6 t119.length coz6)) (fun _ hk=>hk.1.2) (.int .i64 t122)) (fun _ hk=>hk.2) (.slice Aoz1 t104.length coz1)) (fun _ hk=>hk.2) (.slice Aoz2 t107.length coz2)) (fun _ hk=>hk.2) (.slice Aoz3 t110.length coz3)) (fun _ hk=>hk.2) (.int .i64 a0_3)) (fun _ hk=>hk.2) (.slice Aoz4 t113.length coz4)) (fun _ hk=>hk.2) (.slice Aoz5 t116.length coz5)) (fun _ hk=>hk.2) (.slice Aoz6 t119.length coz6)) (fun _ hk=>hk.2) (.int .i64 t122)) (fun _ hk=>trivial),by (with_reducible repeat (first | apply Kd.S_alloc | apply Kd.S_drewN | apply Kd.S_drew));exact Kd.S_mono (Kd.S_far (p:=⟨gbz2,7,none⟩) (Kd.S_far (p:=⟨gbz2,6,none⟩) (Kd.S_far (p:=⟨gbz2,5,none⟩) (Kd.S_far (p:=⟨gbz2,4,none⟩) (Kd.S_far (p:=⟨gbz2,3,none⟩) (Kd.S_far (p:=⟨gbz2,2,none⟩) (Kd.S_far (p:=⟨gbz2,1,none⟩) (Kd.S_far (p:=⟨gbz2,0,none⟩) (Kd.S_far (p:=⟨gbz3,7,none⟩) (Kd.S_far (p:=⟨gbz3,6,none⟩) (Kd.S_types (Kd.S_types HOz4.out BKz3.out (by decide)) BKz2.out (by decide)) (fun _ hk=>hk.1.2) (.slice Aoz6 t119.length coz6)) (fun _ hk=>hk.1.2) (.int .i64 t122)) (fun _ hk=>hk.2) (.slice Aoz1 t104.length coz1)) (fun _ hk=>hk.2) (.slice Aoz2 t107.length coz2)) (fun _ hk=>hk.2) (.slice Aoz3 t110.length coz3)) (fun _ hk=>hk.2) (.int .i64 a0_3)) (fun _ hk=>hk.2) (.slice Aoz4 t113.length coz4)) (fun _ hk=>hk.2) (.slice Aoz5 t116.length coz5)) (fun _ hk=>hk.2) (.slice Aoz6 t119.length coz6)) (fun _ hk=>hk.2) (.int .i64 t122)) (fun _ hk=>⟨hk.1.1.1.2,hk.1.1.2⟩),(rT (h:=by exact Kd.R_mono (Kd.R_far (p:=⟨gbz2,7,none⟩) (Kd.R_far (p:=⟨gbz2,6,none⟩) (Kd.R_far (p:=⟨gbz2,5,none⟩) (Kd.R_far (p:=⟨gbz2,4,none⟩) (Kd.R_far (p:=⟨gbz2,3,none⟩) (Kd.R_far (p:=⟨gbz2,2,none⟩) (Kd.R_far (p:=⟨gbz2,1,none⟩) (Kd.R_far (p:=⟨gbz2,0,none⟩) (Kd.R_far (p:=⟨gbz3,7,none⟩) (Kd.R_far (p:=⟨gbz3,6,none⟩) (Kd.R_types (Kd.R_types HOz5.out BKz3.out (by decide)) BKz2.out (by decide)) (fun _ hk=>hk.1.2) (.slice Aoz6 t119.length coz6)) (fun _ hk=>hk.1.2) (.int .i64 t122)) (fun _ hk=>hk.2) (.slice Aoz1 t104.length coz1)) (fun _ hk=>hk.2) (.slice Aoz2 t107.length coz2)) (fun _ hk=>hk.2) (.slice Aoz3 t110.length coz3)) (fun _ hk=>hk.2) (.int .i64 a0_3)) (fun _ hk=>hk.2) (.slice Aoz4 t113.length coz4)) (fun _ hk=>hk.2) (.slice Aoz5 t116.length coz5)) (fun _ hk=>hk.2) (.slice Aoz6 t119.length coz6)) (fun _ hk=>hk.2) (.int .i64 t122)) (fun _ hk=>hk.1.1.2))),(rT (h:=by exact Kd.R_mono (Kd.R_far (p:=⟨gbz2,7,none⟩) (Kd.R_far (p:=⟨gbz2,6,none⟩) (Kd.R_far (p:=⟨gbz2,5,none⟩) (Kd.R_far (p:=⟨gbz2,4,none⟩) (Kd.R_far (p:=⟨gbz2,3,none⟩) (Kd.R_far (p:=⟨gbz2,2,none⟩) (Kd.R_far (p:=⟨gbz2,1,none⟩) (Kd.R_far (p:=⟨gbz2,0,none⟩) (Kd.R_far (p:=⟨gbz3,7,none⟩) (Kd.R_far (p:=⟨gbz3,6,none⟩) (Kd.R_types (Kd.R_types HOz6.out BKz3.out (by decide)) BKz2.out (by decide)) (fun _ hk=>hk.1.2) (.slice Aoz6 t119.length coz6)) (fun _ hk=>hk.1.2) (.int .i64 t122)) (fun _ hk=>hk.2) (.slice Aoz1 t104.length coz1)) (fun _ hk=>hk.2) (.slice Aoz2 t107.length coz2)) (fun _ hk=>hk.2) (.slice Aoz3 t110.length coz3)) (fun _ hk=>hk.2) (.int .i64 a0_3)) (fun _ hk=>hk.2) (.slice Aoz4 t113.length coz4)) (fun _ hk=>hk.2) (.slice Aoz5 t116.length coz5)) (fun _ hk=>hk.2) (.slice Aoz6 t119.length coz6)) (fun _ hk=>hk.2) (.int .i64 t122)) (fun _ hk=>hk.1.1.2))),(hX HB.out)⟩
def XU.f (k:Nat) (l0_0:List (S170)) (l0_1:List (S175)) (l0_2:List (S146)) (a0_3:Int) (l0_4:List (S59)) (l0_5:List Int) (l0_6:List Int) (a0_7:Int) (l1_0:List (S170)) (l1_1:List (S175)) (l1_2:List (S146)) (a1_3:Int) (l1_4:List (S59)) (l1_5:List Int) (l1_6:List Int) (a1_7:Int):Option (Bool):=(Xac.f k l0_0 l0_1 l1_0 l1_1).bind fun t103=>(if t103=true then ((Xb.f k l0_2 l1_2).bind fun t104=>(if t104=true then (if a0_3=a1_3 then ((Xa.f k l0_4 l1_4).bind fun t105=>(if t105=true then ((Xp.f k l0_5 l1_5).bind fun t106=>(if t106=true then ((X1.f k l0_6 a0_7 l1_6 a1_7).bind fun t107=>(if t107=true then (some true) else (some false))) else (some false))) else (some false))) else (some false)) else (some false))) else (some false))
theorem XU.calls (k:Nat) (A0_0:Option Addr) (c0_0:Nat) (l0_0:List (S170)) (A0_1:Option Addr) (c0_1:Nat) (l0_1:List (S175)) (A0_2:Option Addr) (c0_2:Nat) (l0_2:List (S146)) (a0_3:Int) (A0_4:Option Addr) (c0_4:Nat) (l0_4:List (S59)) (A0_5:Option Addr) (c0_5:Nat) (l0_5:List Int) (A0_6:Option Addr) (c0_6:Nat) (l0_6:List Int) (a0_7:Int) (A1_0:Option Addr) (c1_0:Nat) (l1_0:List (S170)) (A1_1:Option Addr) (c1_1:Nat) (l1_1:List (S175)) (A1_2:Option Addr) (c1_2:Nat) (l1_2:List (S146)) (a1_3:Int) (A1_4:Option Addr) (c1_4:Nat) (l1_4:List (S59)) (A1_5:Option Addr) (c1_5:Nat) (l1_5:List Int) (A1_6:Option Addr) (c1_6:Nat) (l1_6:List Int) (a1_7:Int) (r:Bool) (w:World) (hr0_0:Kd.C k170 w A0_0 l0_0.length l0_0) (hc0_0:l0_0.length≤c0_0) (hr0_1:Kd.C k175 w A0_1 l0_1.length l0_1) (hc0_1:l0_1.length≤c0_1) (hr0_2:Kd.C k146 w A0_2 l0_2.length l0_2) (hc0_2:l0_2.length≤c0_2) (hr0_4:Kd.C k59 w A0_4 l0_4.length l0_4) (hc0_4:l0_4.length≤c0_4) (hr0_5:Kd.C (Kd.int .i64) w A0_5 l0_5.length l0_5) (hc0_5:l0_5.length≤c0_5) (hr0_6:Kd.C (Kd.int .i64) w A0_6 l0_6.length l0_6) (hc0_6:l0_6.length≤c0_6) (hr1_0:Kd.C k170 w A1_0 l1_0.length l1_0) (hc1_0:l1_0.length≤c1_0) (hr1_1:Kd.C k175 w A1_1 l1_1.length l1_1) (hc1_1:l1_1.length≤c1_1) (hr1_2:Kd.C k146 w A1_2 l1_2.length l1_2) (hc1_2:l1_2.length≤c1_2) (hr1_4:Kd.C k59 w A1_4 l1_4.length l1_4) (hc1_4:l1_4.length≤c1_4) (hr1_5:Kd.C (Kd.int .i64) w A1_5 l1_5.length l1_5) (hc1_5:l1_5.length≤c1_5) (hr1_6:Kd.C (Kd.int .i64) w A1_6 l1_6.length l1_6) (hc1_6:l1_6.length≤c1_6) (h:XU.f k l0_0 l0_1 l0_2 a0_3 l0_4 l0_5 l0_6 a0_7 l1_0 l1_1 l1_2 a1_3 l1_4 l1_5 l1_6 a1_7=some r) :
  Calls Try.prog 70 #[.agg #[.slice A0_0 l0_0.length c0_0,.slice A0_1 l0_1.length c0_1,.slice A0_2 l0_2.length c0_2,.int .i64 a0_3,.slice A0_4 l0_4.length c0_4,.slice A0_5 l0_5.length c0_5,.slice A0_6 l0_6.length c0_6,.int .i64 a0_7],.agg #[.slice A1_0 l1_0.length c1_0,.slice A1_1 l1_1.length c1_1,.slice A1_2 l1_2.length c1_2,.int .i64 a1_3,.slice A1_4 l1_4.length c1_4,.slice A1_5 l1_5.length c1_5,.slice A1_6 l1_6.length c1_6,.int .i64 a1_7]] w fun e w'=>e = .returned (.bool r)∧Below w.heap.size w w':=by
 have hu87:=Try.underlying87
 have hu84:=Try.underlying84
 have hu24:=Try.underlying24
 have HR0_0:=Aside0.mk hr0_0
 have HC0_0:=Aside0.mk hc0_0
 clear hr0_0 hc0_0
 have HR0_1:=Aside0.mk hr0_1
 have HC0_1:=Aside0.mk hc0_1
 clear hr0_1 hc0_1
 have HR0_2:=Aside0.mk hr0_2
 have HC0_2:=Aside0.mk hc0_2
 clear hr0_2 hc0_2
 have HR0_4:=Aside0.mk hr0_4
 have HC0_4:=Aside0.mk hc0_4
 clear hr0_4 hc0_4
 have HR0_5:=Aside0.mk hr0_5
 have HC0_5:=Aside0.mk hc0_5
 clear hr0_5 hc0_5
 have HR0_6:=Aside0.mk hr0_6
 have HC0_6:=Aside0.mk hc0_6
 clear hr0_6 hc0_6
 have HR1_0:=Aside0.mk hr1_0
 have HC1_0:=Aside0.mk hc1_0
 clear hr1_0 hc1_0
 have HR1_1:=Aside0.mk hr1_1
 have HC1_1:=Aside0.mk hc1_1
 clear hr1_1 hc1_1
 have HR1_2:=Aside0.mk hr1_2
 have HC1_2:=Aside0.mk hc1_2
 clear hr1_2 hc1_2
 have HR1_4:=Aside0.mk hr1_4
 have HC1_4:=Aside0.mk hc1_4
 clear hr1_4 hc1_4
 have HR1_5:=Aside0.mk hr1_5
 have HC1_5:=Aside0.mk hc1_5
 clear hr1_5 hc1_5
 have HR1_6:=Aside0.mk hr1_6
 have HC1_6:=Aside0.mk hc1_6
 clear hr1_6 hc1_6
 have HB:=Aside0.mk (Below.refl w.heap.size w)
 have H:=h
 unfold XU.f at H
 clear h
 replace H:=bE H;obtain⟨t103,A3,H⟩:=H
 go_enter Try.func70,Try.ntmps70
 go_wp2_with (first | ((with_reducible refine gate_dst (N:=2) rfl ?_);refine boxE 2 #[.slice A0_0 l0_0.length c0_0,.slice A0_1 l0_1.length c0_1,.slice A0_2 l0_2.length c0_2,.int .i64 a0_3,.slice A0_4 l0_4.length c0_4,.slice A0_5 l0_5.length c0_5,.slice A0_6 l0_6.length c0_6,.int .i64 a0_7] 87 ?_;intro gbz1 hg wz1 hbox hb;have BKz1:=Aside0.mk (hbox);have GWz1:=Aside0.mk (gX' hg (hX HB.out));have GEz1:=Aside0.mk (gX' hg (hX HB.out));replace HB:=Aside0.mk (below_step (hX HB.out) hb);clear hb hbox hg) | ((with_reducible refine gate_dst (N:=3) rfl ?_);refine boxE 3 #[.slice A1_0 l1_0.length c1_0,.slice A1_1 l1_1.length c1_1,.slice A1_2 l1_2.length c1_2,.int .i64 a1_3,.slice A1_4 l1_4.length c1_4,.slice A1_5 l1_5.length c1_5,.slice A1_6 l1_6.length c1_6,.int .i64 a1_7] 87 ?_;intro gbz2 hg wz2 hbox hb;have BKz2:=Aside0.mk (hbox);have GWz2:=Aside0.mk (gX' hg (hX HB.out));have GEz2:=Aside0.mk (gX' hg (hX HB.out));have NBz1:=Aside0.mk (gL hg (bX BKz1.out));have NBz2:=Aside0.mk (gG hg (bX BKz1.out));replace BKz1:=Aside0.mk (blk_below (bX BKz1.out) hb);replace HB:=Aside0.mk (below_step (hX HB.out) hb);clear hb hbox hg;have hnbz1:=NBz1.out;have hncz1:=NBz2.out;obtain⟨hczz1,hczz2,hczz3,hczz4,hczz5,hczz6,hczz7,hczz8,hfzz1,hfzz2,hfzz3,hfzz4,hfzz5,hfzz6,hfzz7,hfzz8⟩:=cZ8 BKz1.out;obtain⟨hczz9,hczz10,hczz11,hczz12,hczz13,hczz14,hczz15,hczz16,hfzz9,hfzz10,hfzz11,hfzz12,hfzz13,hfzz14,hfzz15,hfzz16⟩:=cZ8 BKz2.out;refine Stop.out ?_))
 refine⟨?_⟩
 by_cases c4:t103=true
 ·subst c4
  rw[if_pos rfl] at H
  replace H:=bE H;obtain⟨t104,A5,H⟩:=H
  go_wp2_with (first | ((with_reducible refine gate_callee (f:=120) rfl ?_);refine goesM 120 9 Try.func120 #[.agg #[.slice A0_0 l0_0.length c0_0,.slice A0_1 l0_1.length c0_1],.agg #[.slice A1_0 l1_0.length c1_0,.slice A1_1 l1_1.length c1_1]] ?_;refine(Xac.calls k _ _ l0_0 _ _ l0_1 _ _ l1_0 _ _ l1_1 true _ (cC HR0_0.out HB.out) HC0_0.out (cC HR0_1.out HB.out) HC0_1.out (cC HR1_0.out HB.out) HC1_0.out (cC HR1_1.out HB.out) HC1_1.out A3.out).mono ?_;rintro e wz3 ⟨rfl,hb⟩;refine⟨_,rfl,?_⟩;replace BKz1:=Aside0.mk (blk_below (bX BKz1.out) hb);replace BKz2:=Aside0.mk (blk_below (bX BKz2.out) hb);replace HB:=Aside0.mk (below_step (hX HB.out) hb);clear hb;obtain⟨hczz17,hczz18,hczz19,hczz20,hczz21,hczz22,hczz23,hczz24,hfzz17,hfzz18,hfzz19,hfzz20,hfzz21,hfzz22,hfzz23,hfzz24⟩:=cZ8 BKz1.out;obtain⟨hczz25,hczz26,hczz27,hczz28,hczz29,hczz30,hczz31,hczz32,hfzz25,hfzz26,hfzz27,hfzz28,hfzz29,hfzz30,hfzz31,hfzz32⟩:=cZ8 BKz2.out;refine Stop.out ?_))
  refine⟨?_⟩
  by_cases c6:t104=true
  ·subst c6
   rw[if_pos rfl] at H
   go_wp2_with (first | ((with_reducible refine gate_callee (f:=121) rfl ?_);refine goesM 121 15 Try.func121 #[.slice A0_2 l0_2.length c0_2,.slice A1_2 l1_2.length c1_2] ?_;refine(Xb.calls k _ _ l0_2 _ _ l1_2 true _ (cC HR0_2.out HB.out) HC0_2.out (cC HR1_2.out HB.out) HC1_2.out A5.out).mono ?_;rintro e wz4 ⟨rfl,hb⟩;refine⟨_,rfl,?_⟩;replace BKz1:=Aside0.mk (blk_below (bX BKz1.out) hb);replace BKz2:=Aside0.mk (blk_below (bX BKz2.out) hb);replace HB:=Aside0.mk (below_step (hX HB.out) hb);clear hb;obtain⟨hczz33,hczz34,hczz35,hczz36,hczz37,hczz38,hczz39,hczz40,hfzz33,hfzz34,hfzz35,hfzz36,hfzz37,hfzz38,hfzz39,hfzz40⟩:=cZ8 BKz1.out;obtain⟨hczz41,hczz42,hczz43,hczz44,hczz45,hczz46,hczz47,hczz48,hfzz41,hfzz42,hfzz43,hfzz44,hfzz45,hfzz46,hfzz47,hfzz48⟩:=cZ8 BKz2.out;refine Stop.out ?_))
   refine⟨?_⟩
   by_cases c7:a0_3=a1_3
   ·rw[if_pos c7] at H
    obtain⟨c7b0,c7b1⟩:=eqT c7
    clear c7
    replace H:=bE H;obtain⟨t105,A8,H⟩:=H
    by_cases c9:t105=true
    ·subst c9
     rw[if_pos rfl] at H
     replace H:=bE H;obtain⟨t106,A10,H⟩:=H
     go_wp2_with (first | ((with_reducible refine gate_callee (f:=65) rfl ?_);refine goesM 65 26 Try.func65 #[.slice A0_4 l0_4.length c0_4,.slice A1_4 l1_4.length c1_4] ?_;refine(Xa.calls k _ _ l0_4 _ _ l1_4 true _ (cC HR0_4.out HB.out) HC0_4.out (cC HR1_4.out HB.out) HC1_4.out A8.out).mono ?_;rintro e wz5 ⟨rfl,hb⟩;refine⟨_,rfl,?_⟩;replace BKz1:=Aside0.mk (blk_below (bX BKz1.out) hb);replace BKz2:=Aside0.mk (blk_below (bX BKz2.out) hb);replace HB:=Aside0.mk (below_step (hX HB.out) hb);clear hb;obtain⟨hczz49,hczz50,hczz51,hczz52,hczz53,hczz54,hczz55,hczz56,hfzz49,hfzz50,hfzz51,hfzz52,hfzz53,hfzz54,hfzz55,hfzz56⟩:=cZ8 BKz1.out;obtain⟨hczz57,hczz58,hczz59,hczz60,hczz61,hczz62,hczz63,hczz64,hfzz57,hfzz58,hfzz59,hfzz60,hfzz61,hfzz62,hfzz63,hfzz64⟩:=cZ8 BKz2.out;refine Stop.out ?_))
     refine⟨?_⟩
     by_cases c11:t106=true
     ·subst c11
      rw[if_pos rfl] at H
      replace H:=bE H;obtain⟨t107,A12,H⟩:=H
      go_wp2_with (first | ((with_reducible refine gate_callee (f:=17) rfl ?_);refine goesM 17 32 Try.func17 #[.slice A0_5 l0_5.length c0_5,.slice A1_5 l1_5.length c1_5] ?_;refine(Xp.calls k _ _ l0_5 _ _ l1_5 true _ (cC HR0_5.out HB.out) HC0_5.out (cC HR1_5.out HB.out) HC1_5.out A10.out).mono ?_;rintro e w' ⟨rfl,⟨nd,rfl⟩⟩;refine⟨_,rfl,?_⟩;refine Stop.out ?_))
      refine⟨?_⟩
      by_cases c13:t107=true
      ·subst c13
       rw[if_pos rfl] at H
       obtain rfl:=Option.some.inj H
       go_wp2_with (first | ((with_reducible refine gate_callee (f:=16) rfl ?_);refine goesM 16 38 Try.func16 #[.agg #[.slice A0_6 l0_6.length c0_6,.int .i64 a0_7],.agg #[.slice A1_6 l1_6.length c1_6,.int .i64 a1_7]] ?_;refine(X1.calls k _ _ l0_6 a0_7 _ _ l1_6 a1_7 true _ (cC HR0_6.out HB.out) HC0_6.out (cC HR1_6.out HB.out) HC1_6.out A12.out).mono ?_;rintro e wz6 ⟨rfl,hb⟩;refine⟨_,rfl,?_⟩;replace BKz1:=Aside0.mk (blk_below (bX BKz1.out) hb);replace BKz2:=Aside0.mk (blk_below (bX BKz2.out) hb);replace HB:=Aside0.mk (below_step (hX HB.out) hb);clear hb))
       go_ret
       exact⟨rE,(hX HB.out)⟩
      ·replace c13:=Bool.eq_false_iff.mpr c13
       subst c13
       rw[if_neg nft] at H
       obtain rfl:=Option.some.inj H
       go_wp2_with (first | ((with_reducible refine gate_callee (f:=16) rfl ?_);refine goesM 16 38 Try.func16 #[.agg #[.slice A0_6 l0_6.length c0_6,.int .i64 a0_7],.agg #[.slice A1_6 l1_6.length c1_6,.int .i64 a1_7]] ?_;refine(X1.calls k _ _ l0_6 a0_7 _ _ l1_6 a1_7 false _ (cC HR0_6.out HB.out) HC0_6.out (cC HR1_6.out HB.out) HC1_6.out A12.out).mono ?_;rintro e wz6 ⟨rfl,hb⟩;refine⟨_,rfl,?_⟩;replace BKz1:=Aside0.mk (blk_below (bX BKz1.out) hb);replace BKz2:=Aside0.mk (blk_below (bX BKz2.out) hb);replace HB:=Aside0.mk (below_step (hX HB.out) hb);clear hb))
       go_ret
       exact⟨rE,(hX HB.out)⟩
     ·replace c11:=Bool.eq_false_iff.mpr c11
      subst c11
      rw[if_neg nft] at H
      obtain rfl:=Option.some.inj H
      go_wp2_with (first | ((with_reducible refine gate_callee (f:=17) rfl ?_);refine goesM 17 32 Try.func17 #[.slice A0_5 l0_5.length c0_5,.slice A1_5 l1_5.length c1_5] ?_;refine(Xp.calls k _ _ l0_5 _ _ l1_5 false _ (cC HR0_5.out HB.out) HC0_5.out (cC HR1_5.out HB.out) HC1_5.out A10.out).mono ?_;rintro e w' ⟨rfl,⟨nd,rfl⟩⟩;refine⟨_,rfl,?_⟩))
      go_ret
      exact⟨rE,(hX HB.out)⟩
    ·replace c9:=Bool.eq_false_iff.mpr c9
     subst c9
     rw[if_neg nft] at H
     obtain rfl:=Option.some.inj H
     go_wp2_with (first | ((with_reducible refine gate_callee (f:=65) rfl ?_);refine goesM 65 26 Try.func65 #[.slice A0_4 l0_4.length c0_4,.slice A1_4 l1_4.length c1_4] ?_;refine(Xa.calls k _ _ l0_4 _ _ l1_4 false _ (cC HR0_4.out HB.out) HC0_4.out (cC HR1_4.out HB.out) HC1_4.out A8.out).mono ?_;rintro e wz5 ⟨rfl,hb⟩;refine⟨_,rfl,?_⟩;replace BKz1:=Aside0.mk (blk_below (bX BKz1.out) hb);replace BKz2:=Aside0.mk (blk_below (bX BKz2.out) hb);replace HB:=Aside0.mk (below_step (hX HB.out) hb);clear hb))
     go_ret
     exact⟨rE,(hX HB.out)⟩
   ·rw[if_neg c7] at H
    obtain⟨c7b0,c7b1⟩:=eqF c7
    obtain rfl:=Option.some.inj H
    go_wp2
    go_ret
    exact⟨rE,(hX HB.out)⟩
  ·replace c6:=Bool.eq_false_iff.mpr c6
   subst c6
   rw[if_neg nft] at H
   obtain rfl:=Option.some.inj H
   go_wp2_with (first | ((with_reducible refine gate_callee (f:=121) rfl ?_);refine goesM 121 15 Try.func121 #[.slice A0_2 l0_2.length c0_2,.slice A1_2 l1_2.length c1_2] ?_;refine(Xb.calls k _ _ l0_2 _ _ l1_2 false _ (cC HR0_2.out HB.out) HC0_2.out (cC HR1_2.out HB.out) HC1_2.out A5.out).mono ?_;rintro e wz4 ⟨rfl,hb⟩;refine⟨_,rfl,?_⟩;replace BKz1:=Aside0.mk (blk_below (bX BKz1.out) hb);replace BKz2:=Aside0.mk (blk_below (bX BKz2.out) hb);replace HB:=Aside0.mk (below_step (hX HB.out) hb);clear hb))
   go_ret
   exact⟨rE,(hX HB.out)⟩
 ·replace c4:=Bool.eq_false_iff.mpr c4
  subst c4
  rw[if_neg nft] at H
  obtain rfl:=Option.some.inj H
  go_wp2_with (first | ((with_reducible refine gate_callee (f:=120) rfl ?_);refine goesM 120 9 Try.func120 #[.agg #[.slice A0_0 l0_0.length c0_0,.slice A0_1 l0_1.length c0_1],.agg #[.slice A1_0 l1_0.length c1_0,.slice A1_1 l1_1.length c1_1]] ?_;refine(Xac.calls k _ _ l0_0 _ _ l0_1 _ _ l1_0 _ _ l1_1 false _ (cC HR0_0.out HB.out) HC0_0.out (cC HR0_1.out HB.out) HC0_1.out (cC HR1_0.out HB.out) HC1_0.out (cC HR1_1.out HB.out) HC1_1.out A3.out).mono ?_;rintro e wz3 ⟨rfl,hb⟩;refine⟨_,rfl,?_⟩;replace BKz1:=Aside0.mk (blk_below (bX BKz1.out) hb);replace BKz2:=Aside0.mk (blk_below (bX BKz2.out) hb);replace HB:=Aside0.mk (below_step (hX HB.out) hb);clear hb))
  go_ret
  exact⟨rE,(hX HB.out)⟩
end Go.Proofs.Yteamagejhbkhnaa.P
