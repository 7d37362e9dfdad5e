/- A part of the proof of the law FnExactJudgeWords: texts of this seat, merged (words, printed functions of the program, plain lemmas). Conditions: none of its own. -/
import Derived.Test.YtmljebgideecjaaGreatP2kFnExactJudgeWords41
set_option linter.unusedSimpArgs false
set_option linter.unusedVariables false
set_option maxHeartbeats 8000000
set_option maxRecDepth 100000
namespace Go.Proofs.YtmljebgideecjaaGreat.P2
open Go.Proofs.YtmljebgideecjaaGreatZ Go.RowKit Go.Proofs.YtmljebgideecjaaGreatW.PrintWords Go.Proofs.YtmljebgideecjaaGreatW.PrintLast Go.Proofs.YtmljebgideecjaaGreatW.PrintMore
attribute [local go_sem] max2_int min2_int max_two min_two max_three min_three max_four min_four   -- for this text's walks alone
def Xaq.f (k:Nat) (l0_0:List (S176)) (l0_1:List (S155)) (l0_2:List (S114)) (a0_3:Int) (l0_4:List (S119)) (l0_5:List Int) (l0_6:List Int) (a0_7:Int):Option (Bool):=(Xat.f k l0_0 l0_1 l0_2 a0_3 l0_4 l0_5 l0_6 a0_7 1048576).bind fun t102=>(if t102<0 then (some true) else ((Xaf.f k l0_0 l0_1 l0_2 a0_3 l0_4 l0_5 l0_6 a0_7).bind fun bt103=>((XR.f k bt103.1 bt103.2.1 bt103.2.2.1 bt103.2.2.2.1 bt103.2.2.2.2.1 bt103.2.2.2.2.2.1 bt103.2.2.2.2.2.2.1 bt103.2.2.2.2.2.2.2).bind fun t123=>((Xaf.f k l0_0 l0_1 l0_2 a0_3 l0_4 l0_5 l0_6 a0_7).bind fun bt124=>((XI.f k bt124.1 bt124.2.1 bt124.2.2.1 bt124.2.2.2.1 bt124.2.2.2.2.1 bt124.2.2.2.2.2.1 bt124.2.2.2.2.2.2.1 bt124.2.2.2.2.2.2.2).bind fun t145=>(if (t145 != t123)=true then (some false) else ((Xaf.f k l0_0 l0_1 l0_2 a0_3 l0_4 l0_5 l0_6 a0_7).bind fun bt146=>((Xau.f k bt124.1 bt124.2.1 bt124.2.2.1 bt124.2.2.2.1 bt124.2.2.2.2.1 bt124.2.2.2.2.2.1 bt124.2.2.2.2.2.2.1 bt124.2.2.2.2.2.2.2 bt146.1 bt146.2.1 bt146.2.2.1 bt146.2.2.2.1 bt146.2.2.2.2.1 bt146.2.2.2.2.2.1 bt146.2.2.2.2.2.2.1 bt146.2.2.2.2.2.2.2).bind fun t166=>(if t166=true then (some true) else (some false))))))))))
theorem Xaq.calls (k:Nat) (A0_0:Option Addr) (c0_0:Nat) (l0_0:List (S176)) (A0_1:Option Addr) (c0_1:Nat) (l0_1:List (S155)) (A0_2:Option Addr) (c0_2:Nat) (l0_2:List (S114)) (a0_3:Int) (A0_4:Option Addr) (c0_4:Nat) (l0_4:List (S119)) (A0_5:Option Addr) (c0_5:Nat) (l0_5:List Int) (A0_6:Option Addr) (c0_6:Nat) (l0_6:List Int) (a0_7:Int) (r:Bool) (w:World) (hr0_0:Kd.C k176 w A0_0 l0_0.length l0_0) (hc0_0:l0_0.length≤c0_0) (hr0_1:Kd.C k155 w A0_1 l0_1.length l0_1) (hc0_1:l0_1.length≤c0_1) (hr0_2:Kd.C k114 w A0_2 l0_2.length l0_2) (hc0_2:l0_2.length≤c0_2) (hr0_4:Kd.C k119 w A0_4 l0_4.length l0_4) (hc0_4:l0_4.length≤c0_4) (hr0_5:Kd.C (Kd.int .i64) w A0_5 l0_5.length l0_5) (hc0_5:l0_5.length≤c0_5) (hr0_6:Kd.C (Kd.int .i64) w A0_6 l0_6.length l0_6) (hc0_6:l0_6.length≤c0_6) (h:Xaq.f k l0_0 l0_1 l0_2 a0_3 l0_4 l0_5 l0_6 a0_7=some r) :
  Calls Tryz.prog 8 #[.agg #[.slice A0_0 l0_0.length c0_0,.slice A0_1 l0_1.length c0_1,.slice A0_2 l0_2.length c0_2,.int .i64 a0_3,.slice A0_4 l0_4.length c0_4,.slice A0_5 l0_5.length c0_5,.slice A0_6 l0_6.length c0_6,.int .i64 a0_7]] w fun e w'=>e = .returned (.bool r)∧Below w.heap.size w w':=by
 have hu32:=Tryz.underlying32
 have hu43:=Tryz.underlying43
 have HR0_0:=aM hr0_0
 have HC0_0:=aM hc0_0
 clear hr0_0 hc0_0
 have HR0_1:=aM hr0_1
 have HC0_1:=aM hc0_1
 clear hr0_1 hc0_1
 have HR0_2:=aM hr0_2
 have HC0_2:=aM hc0_2
 clear hr0_2 hc0_2
 have HR0_4:=aM hr0_4
 have HC0_4:=aM hc0_4
 clear hr0_4 hc0_4
 have HR0_5:=aM hr0_5
 have HC0_5:=aM hc0_5
 clear hr0_5 hc0_5
 have HR0_6:=aM hr0_6
 have HC0_6:=aM hc0_6
 clear hr0_6 hc0_6
 have HB:=aM (Below.refl w.heap.size w)
 have H:=h
 unfold Xaq.f at H
 clear h
 replace H:=bE H;obtain⟨t102,A2,H⟩:=H
 go_enter Tryz.func8,Tryz.ntmps8
 go_wp2_with (refine boxE 1 #[.slice A0_0 l0_0.length c0_0,.slice A0_1 l0_1.length c0_1,.slice A0_2 l0_2.length c0_2,.int .i64 a0_3,.slice A0_4 l0_4.length c0_4,.slice A0_5 l0_5.length c0_5,.slice A0_6 l0_6.length c0_6,.int .i64 a0_7] 32 ?_;intro gbz1 hg wz1 hbox hb;have BKz1:=aM (hbox);have GWz1:=aG hg HB;replace HB:=aS HB hb;clear hb hbox hg;have hczz1:=cZ8 BKz1.out;refine Stop.out ?_)
 refine⟨?_⟩
 revert H;refine iP ?_ ?_<;>intro c3b0 H
 ·obtain rfl:=sI H
  go_wp2_with (refine gB 10 9 Tryz.func10 (Xat.calls _ _ _ _ _ _ _ _ _ _ _ _ _ _ _ _ _ _ _ _ _ _ _ _ (rW HR0_0 HB HC0_0) (rW HR0_1 HB HC0_1) (rW HR0_2 HB HC0_2) (rW HR0_4 HB HC0_4) (rW HR0_5 HB HC0_5) (rW HR0_6 HB HC0_6) A2.out) ?_;intro wz2 hb;replace BKz1:=aB BKz1 hb;replace HB:=aS HB hb;clear hb)
  go_ret
  exact⟨rE,(hX HB.out)⟩
 replace H:=bE H;obtain⟨⟨t103,t106,t109,t112,t113,t116,t119,t122⟩,A7,H⟩:=H
 try dsimp only at H
 replace H:=bE H;obtain⟨t123,A8,H⟩:=H
 replace H:=bE H;obtain⟨⟨t124,t127,t130,t133,t134,t137,t140,t143⟩,A9,H⟩:=H
 try dsimp only at H
 replace H:=bE H;obtain⟨t145,A10,H⟩:=H
 go_wp2_with (first | ((with_reducible refine gate_callee (f:=10) rfl ?_);refine gB 10 9 Tryz.func10 (Xat.calls _ _ _ _ _ _ _ _ _ _ _ _ _ _ _ _ _ _ _ _ _ _ _ _ (rW HR0_0 HB HC0_0) (rW HR0_1 HB HC0_1) (rW HR0_2 HB HC0_2) (rW HR0_4 HB HC0_4) (rW HR0_5 HB HC0_5) (rW HR0_6 HB HC0_6) A2.out) ?_;intro wz2 hb;replace BKz1:=aB BKz1 hb;replace HB:=aS HB hb;clear hb;have hczz9:=cZ8 BKz1.out) | (refine goesM 12 13 Tryz.func12 #[.agg #[.slice A0_0 l0_0.length c0_0,.slice A0_1 l0_1.length c0_1,.slice A0_2 l0_2.length c0_2,.int .i64 a0_3,.slice A0_4 l0_4.length c0_4,.slice A0_5 l0_5.length c0_5,.slice A0_6 l0_6.length c0_6,.int .i64 a0_7]] ?_;refine(Xaf.calls _ _ _ _ _ _ _ _ _ _ _ _ _ _ _ _ _ _ _ _ _ _ _ _ _ _ _ _ _ _ (rW HR0_0 HB HC0_0) (rW HR0_1 HB HC0_1) (rW HR0_2 HB HC0_2) (rW HR0_4 HB HC0_4) (rW HR0_5 HB HC0_5) (rW HR0_6 HB HC0_6) A7.out).mono ?_;rintro e wz3 ⟨vz1,vz2,vz3,vz4,vz5,vz6,rfl,hoz1,hoz2,hoz3,hoz4,hoz5,hoz6,hb⟩;refine⟨_,rfl,?_⟩;have HOz1:=aM (Kd.R_lower hoz1 (below_size (hX HB.out)));have HOz2:=aM (Kd.S_lower hoz2 (below_size (hX HB.out)));have HOz3:=aM (Kd.S_lower hoz3 (below_size (hX HB.out)));have HOz4:=aM (Kd.S_lower hoz4 (below_size (hX HB.out)));have HOz5:=aM (Kd.R_lower hoz5 (below_size (hX HB.out)));have HOz6:=aM (Kd.R_lower hoz6 (below_size (hX HB.out)));replace BKz1:=aB BKz1 hb;replace HB:=aS HB hb;clear hb hoz1 hoz2 hoz3 hoz4 hoz5 hoz6;obtain⟨Aoz1,coz1,eoz1⟩:=Kd.R_slice HOz1.out;subst eoz1;obtain⟨Aoz2,coz2,eoz2⟩:=Kd.S_slice HOz2.out;subst eoz2;obtain⟨Aoz3,coz3,eoz3⟩:=Kd.S_slice HOz3.out;subst eoz3;obtain⟨Aoz4,coz4,eoz4⟩:=Kd.S_slice HOz4.out;subst eoz4;obtain⟨Aoz5,coz5,eoz5⟩:=Kd.R_slice HOz5.out;subst eoz5;obtain⟨Aoz6,coz6,eoz6⟩:=Kd.R_slice HOz6.out;subst eoz6) | ((with_reducible refine gate_callee (f:=34) rfl ?_);refine gB 34 14 Tryz.func34 (XR.calls _ _ _ _ _ _ _ _ _ _ _ _ _ _ _ _ _ _ _ _ _ _ _ (rw2 (cX (Kd.R_reads' HOz1.out).2.2) ((Kd.R_reads' HOz1.out).2.1)) (rw2 (cX (Kd.S_reads' HOz2.out).2.2) ((Kd.S_reads' HOz2.out).2.1)) (rw2 (cX (Kd.S_reads' HOz3.out).2.2) ((Kd.S_reads' HOz3.out).2.1)) (rw2 (cX (Kd.S_reads' HOz4.out).2.2) ((Kd.S_reads' HOz4.out).2.1)) (rw2 (cX (Kd.R_reads' HOz5.out).2.2) ((Kd.R_reads' HOz5.out).2.1)) (rw2 (cX (Kd.R_reads' HOz6.out).2.2) ((Kd.R_reads' HOz6.out).2.1)) A8.out) ?_;intro wz4 hb;replace HOz1:=aQ HOz1 hb;replace HOz2:=aT HOz2 hb;replace HOz3:=aT HOz3 hb;replace HOz4:=aT HOz4 hb;replace HOz5:=aQ HOz5 hb;replace HOz6:=aQ HOz6 hb;replace BKz1:=aB BKz1 hb;replace HB:=aS HB hb;clear hb;have hczz17:=cZ8 BKz1.out) | (refine goesM 12 16 Tryz.func12 #[.agg #[.slice A0_0 l0_0.length c0_0,.slice A0_1 l0_1.length c0_1,.slice A0_2 l0_2.length c0_2,.int .i64 a0_3,.slice A0_4 l0_4.length c0_4,.slice A0_5 l0_5.length c0_5,.slice A0_6 l0_6.length c0_6,.int .i64 a0_7]] ?_;refine(Xaf.calls _ _ _ _ _ _ _ _ _ _ _ _ _ _ _ _ _ _ _ _ _ _ _ _ _ _ _ _ _ _ (rW HR0_0 HB HC0_0) (rW HR0_1 HB HC0_1) (rW HR0_2 HB HC0_2) (rW HR0_4 HB HC0_4) (rW HR0_5 HB HC0_5) (rW HR0_6 HB HC0_6) A9.out).mono ?_;rintro e wz5 ⟨vz7,vz8,vz9,vz10,vz11,vz12,rfl,hoz1,hoz2,hoz3,hoz4,hoz5,hoz6,hb⟩;refine⟨_,rfl,?_⟩;have HOz7:=aM (Kd.R_lower (Kd.R_new' hoz1 (Kd.R_lt (rX HOz1.out))) (below_size (hX HB.out)));have HOz8:=aM (Kd.S_lower (Kd.S_new' (Kd.S_new' (Kd.S_new' hoz2 (Kd.S_lt (sX HOz2.out))) (Kd.R_lt (rX HOz5.out))) (Kd.R_lt (rX HOz6.out))) (below_size (hX HB.out)));have HOz9:=aM (Kd.S_lower (Kd.S_new' hoz3 (Kd.S_lt (sX HOz3.out))) (below_size (hX HB.out)));have HOz10:=aM (Kd.S_lower (Kd.S_new' (Kd.S_new' (Kd.S_new' hoz4 (Kd.S_lt (sX HOz4.out))) (Kd.R_lt (rX HOz5.out))) (Kd.R_lt (rX HOz6.out))) (below_size (hX HB.out)));have HOz11:=aM (Kd.R_lower (Kd.R_new' (Kd.R_new' hoz5 (Kd.R_lt (rX HOz5.out))) (Kd.R_lt (rX HOz6.out))) (below_size (hX HB.out)));have HOz12:=aM (Kd.R_lower (Kd.R_new' (Kd.R_new' hoz6 (Kd.R_lt (rX HOz5.out))) (Kd.R_lt (rX HOz6.out))) (below_size (hX HB.out)));replace HOz1:=aM (Kd.R_elder' (rX HOz1.out) (Kd.R_base hoz1) hb);replace HOz2:=aM (Kd.S_mono (Kd.S_told (Kd.S_told (Kd.S_told (Kd.S_old (sX HOz2.out) hb) (Kd.S_base hoz2)) (Kd.R_base hoz5)) (Kd.R_base hoz6)) (fun _ h_=>h_.1));replace HOz3:=aM (Kd.S_elder' (sX HOz3.out) (Kd.S_base hoz3) hb);replace HOz4:=aM (Kd.S_mono (Kd.S_told (Kd.S_told (Kd.S_told (Kd.S_old (sX HOz4.out) hb) (Kd.S_base hoz4)) (Kd.R_base hoz5)) (Kd.R_base hoz6)) (fun _ h_=>h_.1));replace HOz5:=aM (Kd.R_mono (Kd.R_told (Kd.R_told (Kd.R_old (rX HOz5.out) hb) (Kd.R_base hoz5)) (Kd.R_base hoz6)) (fun _ h_=>h_.1));replace HOz6:=aM (Kd.R_mono (Kd.R_told (Kd.R_told (Kd.R_old (rX HOz6.out) hb) (Kd.R_base hoz5)) (Kd.R_base hoz6)) (fun _ h_=>h_.1));replace BKz1:=aB BKz1 hb;replace HB:=aS HB hb;clear hb hoz1 hoz2 hoz3 hoz4 hoz5 hoz6) | (refine boxE 5 #[.slice none 0 0,.slice none 0 0,.slice none 0 0,.int .i64 0,.slice none 0 0,.slice none 0 0,.slice none 0 0,.int .i64 0] 43 ?_;intro gbz2 hg wz6 hbox hb;have BKz2:=aM (hbox);have GWz2:=aG hg HB;have NBz1:=aL hg BKz1;have NBz2:=aR hg BKz1;replace HOz1:=aQ HOz1 hb;replace HOz2:=aT HOz2 hb;replace HOz3:=aT HOz3 hb;replace HOz4:=aT HOz4 hb;replace HOz5:=aQ HOz5 hb;replace HOz6:=aQ HOz6 hb;replace HOz7:=aQ HOz7 hb;replace HOz8:=aT HOz8 hb;replace HOz9:=aT HOz9 hb;replace HOz10:=aT HOz10 hb;replace HOz11:=aQ HOz11 hb;replace HOz12:=aQ HOz12 hb;replace BKz1:=aB BKz1 hb;replace HB:=aS HB hb;clear hb hbox hg;obtain⟨Aoz7,coz7,eoz7⟩:=Kd.R_slice HOz7.out;subst eoz7;have hnbz1:=nB NBz2 NBz1;have hczz25:=cZ8 BKz2.out;obtain⟨Aoz8,coz8,eoz8⟩:=Kd.S_slice HOz8.out;subst eoz8;obtain⟨Aoz9,coz9,eoz9⟩:=Kd.S_slice HOz9.out;subst eoz9;obtain⟨Aoz10,coz10,eoz10⟩:=Kd.S_slice HOz10.out;subst eoz10;obtain⟨Aoz11,coz11,eoz11⟩:=Kd.R_slice HOz11.out;subst eoz11;obtain⟨Aoz12,coz12,eoz12⟩:=Kd.R_slice HOz12.out;subst eoz12) | ((with_reducible refine gate_callee (f:=35) rfl ?_);refine gB 35 18 Tryz.func35 (XI.calls _ _ _ _ _ _ _ _ _ _ _ _ _ _ _ _ _ _ _ _ _ _ _ (rw2 (rR HOz7.out BKz2.out) ((Kd.R_reads' HOz7.out).2.1)) (rw2 (sR HOz8.out BKz2.out) ((Kd.S_reads' HOz8.out).2.1)) (rw2 (sR HOz9.out BKz2.out) ((Kd.S_reads' HOz9.out).2.1)) (rw2 (sR HOz10.out BKz2.out) ((Kd.S_reads' HOz10.out).2.1)) (rw2 (rR HOz11.out BKz2.out) ((Kd.R_reads' HOz11.out).2.1)) (rw2 (rR HOz12.out BKz2.out) ((Kd.R_reads' HOz12.out).2.1)) A10.out) ?_;intro wz7 hb;replace HOz1:=aM (Kd.R_below (rF HOz1.out BKz2.out) hb);replace HOz2:=aM (Kd.S_below (sF HOz2.out BKz2.out) hb);replace HOz3:=aM (Kd.S_below (sF HOz3.out BKz2.out) hb);replace HOz4:=aM (Kd.S_below (sF HOz4.out BKz2.out) hb);replace HOz5:=aM (Kd.R_below (rF HOz5.out BKz2.out) hb);replace HOz6:=aM (Kd.R_below (rF HOz6.out BKz2.out) hb);replace HOz7:=aM (Kd.R_below (rF HOz7.out BKz2.out) hb);replace HOz8:=aM (Kd.S_below (sF HOz8.out BKz2.out) hb);replace HOz9:=aM (Kd.S_below (sF HOz9.out BKz2.out) hb);replace HOz10:=aM (Kd.S_below (sF HOz10.out BKz2.out) hb);replace HOz11:=aM (Kd.R_below (rF HOz11.out BKz2.out) hb);replace HOz12:=aM (Kd.R_below (rF HOz12.out BKz2.out) hb);replace BKz1:=aF BKz1 hb;replace BKz2:=aM (blk_below (g:=gbz2) (o:=.cells #[.slice Aoz7 t124.length coz7,.slice Aoz8 t127.length coz8,.slice Aoz9 t130.length coz9,.int .i64 t133,.slice Aoz10 t134.length coz10,.slice Aoz11 t137.length coz11,.slice Aoz12 t140.length coz12,.int .i64 t143] 43 (0,0)) (bP BKz2.out) hb);replace HB:=aS HB hb;clear hb;refine Stop.out ?_))
 refine⟨?_⟩
 by_cases c11:(t145 != t123)=true
 ·rw[if_pos c11] at H
  have c11b0:(t145 != t123)=true:=c11
  (try (have c11b1:decide (t145=t123)=false:=by simpa using c11))
  (try (have c11b2:(t145 == t123)=false:=by simpa using c11))
  (try (have c11b3:¬ (t145=t123):=by simpa using c11))
  clear c11
  exact fR
 rw[if_neg c11] at H
 have c11b0:(t145 != t123)=false:=by simpa using c11
 (try (have c11b1:decide (t145=t123)=true:=by simpa using c11))
 (try (have c11b2:(t145 == t123)=true:=by simpa using c11))
 clear c11
 replace H:=bE H;obtain⟨⟨t146,t149,t152,t155,t156,t159,t162,t165⟩,A36,H⟩:=H
 try dsimp only at H
 replace H:=bE H;obtain⟨t166,A37,H⟩:=H
 try go_wp2
 replace HOz1:=aM (Kd.R_drew HOz1.out)
 replace HOz2:=aM (Kd.S_drew HOz2.out)
 replace HOz3:=aM (Kd.S_drew HOz3.out)
 replace HOz4:=aM (Kd.S_drew HOz4.out)
 replace HOz5:=aM (Kd.R_drew HOz5.out)
 replace HOz6:=aM (Kd.R_drew HOz6.out)
 replace HOz7:=aM (Kd.R_drew HOz7.out)
 replace HOz8:=aM (Kd.S_drew HOz8.out)
 replace HOz9:=aM (Kd.S_drew HOz9.out)
 replace HOz10:=aM (Kd.S_drew HOz10.out)
 replace HOz11:=aM (Kd.R_drew HOz11.out)
 replace HOz12:=aM (Kd.R_drew HOz12.out)
 replace BKz1:=aM (blk_drew BKz1.out)
 replace BKz2:=aM (blk_drew BKz2.out)
 replace HB:=aM (below_drew1 HB.out)
 refine start_ (n:=5) (S:=fun w'=>w'.cell? ⟨gbz2,0,none⟩=some (.slice Aoz7 t124.length coz7)∧w'.cell? ⟨gbz2,1,none⟩=some (.slice Aoz8 t127.length coz8)∧w'.cell? ⟨gbz2,2,none⟩=some (.slice Aoz9 t130.length coz9)∧w'.cell? ⟨gbz2,3,none⟩=some (.int .i64 t133)∧w'.cell? ⟨gbz2,4,none⟩=some (.slice Aoz10 t134.length coz10)∧w'.cell? ⟨gbz2,5,none⟩=some (.slice Aoz11 t137.length coz11)∧w'.cell? ⟨gbz2,6,none⟩=some (.slice Aoz12 t140.length coz12)∧w'.cell? ⟨gbz2,7,none⟩=some (.int .i64 t143)∧w'.cell? ⟨gbz1,0,none⟩=some (.slice A0_0 l0_0.length c0_0)∧w'.cell? ⟨gbz1,1,none⟩=some (.slice A0_1 l0_1.length c0_1)∧w'.cell? ⟨gbz1,2,none⟩=some (.slice A0_2 l0_2.length c0_2)∧w'.cell? ⟨gbz1,3,none⟩=some (.int .i64 a0_3)∧w'.cell? ⟨gbz1,4,none⟩=some (.slice A0_4 l0_4.length c0_4)∧w'.cell? ⟨gbz1,5,none⟩=some (.slice A0_5 l0_5.length c0_5)∧w'.cell? ⟨gbz1,6,none⟩=some (.slice A0_6 l0_6.length c0_6)∧w'.cell? ⟨gbz1,7,none⟩=some (.int .i64 a0_7)) (ds:=[]) (bm 5 0) (by kernel_rfl) rfl (by kernel_rfl) ⟨cK BKz2.out 0,cK BKz2.out 1,cK BKz2.out 2,cK BKz2.out 3,cK BKz2.out 4,cK BKz2.out 5,cK BKz2.out 6,cK BKz2.out 7,cK BKz1.out 0,cK BKz1.out 1,cK BKz1.out 2,cK BKz1.out 3,cK BKz1.out 4,cK BKz1.out 5,cK BKz1.out 6,cK BKz1.out 7⟩ (fun hHeld => ?_)
 generalize wz7.drew=wz8 at HOz1 HOz2 HOz3 HOz4 HOz5 HOz6 HOz7 HOz8 HOz9 HOz10 HOz11 HOz12 BKz1 BKz2 HB hHeld ⊢
 refine tK 0 22 (bm 5 1) hHeld ?_
 refine tK 1 23 (bm 5 3) hHeld ?_
 refine oK 2 (some 24) (bm 5 7) (fun K hK => ?_)
 refine goesN Tryz.func12 #[.agg #[.slice A0_0 l0_0.length c0_0,.slice A0_1 l0_1.length c0_1,.slice A0_2 l0_2.length c0_2,.int .i64 a0_3,.slice A0_4 l0_4.length c0_4,.slice A0_5 l0_5.length c0_5,.slice A0_6 l0_6.length c0_6,.int .i64 a0_7]] ?_
 refine(Xaf.calls k _ _ l0_0 _ _ l0_1 _ _ l0_2 a0_3 _ _ l0_4 _ _ l0_5 _ _ l0_6 a0_7 t146 t149 t152 t155 t156 t159 t162 t165 _ (rW HR0_0 HB HC0_0) (rW HR0_1 HB HC0_1) (rW HR0_2 HB HC0_2) (rW HR0_4 HB HC0_4) (rW HR0_5 HB HC0_5) (rW HR0_6 HB HC0_6) A36.out).mono ?_
 rintro e wz9 ⟨vz13,vz14,vz15,vz16,vz17,vz18,rfl,hoz1,hoz2,hoz3,hoz4,hoz5,hoz6,hb⟩
 refine⟨_,rfl,?_⟩
 have HOz13:=aM (Kd.R_lower (Kd.R_new' (Kd.R_new' hoz1 (Kd.R_lt (rX HOz1.out))) (Kd.R_lt (rX HOz7.out))) (below_size (hX HB.out)))
 have HOz14:=aM (Kd.S_lower (Kd.S_new' (Kd.S_new' (Kd.S_new' (Kd.S_new' (Kd.S_new' (Kd.S_new' hoz2 (Kd.S_lt (sX HOz2.out))) (Kd.R_lt (rX HOz5.out))) (Kd.R_lt (rX HOz6.out))) (Kd.S_lt (sX HOz8.out))) (Kd.R_lt (rX HOz11.out))) (Kd.R_lt (rX HOz12.out))) (below_size (hX HB.out)))
 have HOz15:=aM (Kd.S_lower (Kd.S_new' (Kd.S_new' hoz3 (Kd.S_lt (sX HOz3.out))) (Kd.S_lt (sX HOz9.out))) (below_size (hX HB.out)))
 have HOz16:=aM (Kd.S_lower (Kd.S_new' (Kd.S_new' (Kd.S_new' (Kd.S_new' (Kd.S_new' (Kd.S_new' hoz4 (Kd.S_lt (sX HOz4.out))) (Kd.R_lt (rX HOz5.out))) (Kd.R_lt (rX HOz6.out))) (Kd.S_lt (sX HOz10.out))) (Kd.R_lt (rX HOz11.out))) (Kd.R_lt (rX HOz12.out))) (below_size (hX HB.out)))
 have HOz17:=aM (Kd.R_lower (Kd.R_new' (Kd.R_new' (Kd.R_new' (Kd.R_new' hoz5 (Kd.R_lt (rX HOz5.out))) (Kd.R_lt (rX HOz6.out))) (Kd.R_lt (rX HOz11.out))) (Kd.R_lt (rX HOz12.out))) (below_size (hX HB.out)))
 have HOz18:=aM (Kd.R_lower (Kd.R_new' (Kd.R_new' (Kd.R_new' (Kd.R_new' hoz6 (Kd.R_lt (rX HOz5.out))) (Kd.R_lt (rX HOz6.out))) (Kd.R_lt (rX HOz11.out))) (Kd.R_lt (rX HOz12.out))) (below_size (hX HB.out)))
 replace HOz1:=aM (Kd.R_elder' (rX HOz1.out) (Kd.R_base hoz1) hb)
 replace HOz2:=aM (Kd.S_mono (Kd.S_told (Kd.S_told (Kd.S_told (Kd.S_old (sX HOz2.out) hb) (Kd.S_base hoz2)) (Kd.R_base hoz5)) (Kd.R_base hoz6)) (fun _ h_=>h_.1))
 replace HOz3:=aM (Kd.S_elder' (sX HOz3.out) (Kd.S_base hoz3) hb)
 replace HOz4:=aM (Kd.S_mono (Kd.S_told (Kd.S_told (Kd.S_told (Kd.S_old (sX HOz4.out) hb) (Kd.S_base hoz4)) (Kd.R_base hoz5)) (Kd.R_base hoz6)) (fun _ h_=>h_.1))
 replace HOz5:=aM (Kd.R_mono (Kd.R_told (Kd.R_told (Kd.R_old (rX HOz5.out) hb) (Kd.R_base hoz5)) (Kd.R_base hoz6)) (fun _ h_=>h_.1))
 replace HOz6:=aM (Kd.R_mono (Kd.R_told (Kd.R_told (Kd.R_old (rX HOz6.out) hb) (Kd.R_base hoz5)) (Kd.R_base hoz6)) (fun _ h_=>h_.1))
 replace HOz7:=aM (Kd.R_elder' (rX HOz7.out) (Kd.R_base hoz1) hb)
 replace HOz8:=aM (Kd.S_mono (Kd.S_told (Kd.S_told (Kd.S_told (Kd.S_old (sX HOz8.out) hb) (Kd.S_base hoz2)) (Kd.R_base hoz5)) (Kd.R_base hoz6)) (fun _ h_=>h_.1))
 replace HOz9:=aM (Kd.S_elder' (sX HOz9.out) (Kd.S_base hoz3) hb)
 replace HOz10:=aM (Kd.S_mono (Kd.S_told (Kd.S_told (Kd.S_told (Kd.S_old (sX HOz10.out) hb) (Kd.S_base hoz4)) (Kd.R_base hoz5)) (Kd.R_base hoz6)) (fun _ h_=>h_.1))
 replace HOz11:=aM (Kd.R_mono (Kd.R_told (Kd.R_told (Kd.R_old (rX HOz11.out) hb) (Kd.R_base hoz5)) (Kd.R_base hoz6)) (fun _ h_=>h_.1))
 replace HOz12:=aM (Kd.R_mono (Kd.R_told (Kd.R_told (Kd.R_old (rX HOz12.out) hb) (Kd.R_base hoz5)) (Kd.R_base hoz6)) (fun _ h_=>h_.1))
 replace BKz1:=aB BKz1 hb
 replace BKz2:=aB BKz2 hb
 replace HB:=aS HB hb
 (try clear hb)
 (try clear hoz1)
 (try clear hoz2)
 (try clear hoz3)
 (try clear hoz4)
 (try clear hoz5)
 (try clear hoz6)
 obtain⟨Aoz13,coz13,eoz13⟩:=Kd.R_slice HOz13.out
 (first | subst eoz13 | (injection eoz13 with f1_ f2_ f3_;have fz1:=f1_.symm;have fz2:=f3_.symm;clear f1_ f2_ f3_;subst fz1;subst fz2))
 obtain⟨Aoz14,coz14,eoz14⟩:=Kd.S_slice HOz14.out
 (first | subst eoz14 | (injection eoz14 with f1_ f2_ f3_;have fz1:=f1_.symm;have fz2:=f3_.symm;clear f1_ f2_ f3_;subst fz1;subst fz2))
 obtain⟨Aoz15,coz15,eoz15⟩:=Kd.S_slice HOz15.out
 (first | subst eoz15 | (injection eoz15 with f1_ f2_ f3_;have fz1:=f1_.symm;have fz2:=f3_.symm;clear f1_ f2_ f3_;subst fz1;subst fz2))
 obtain⟨Aoz16,coz16,eoz16⟩:=Kd.S_slice HOz16.out
 (first | subst eoz16 | (injection eoz16 with f1_ f2_ f3_;have fz1:=f1_.symm;have fz2:=f3_.symm;clear f1_ f2_ f3_;subst fz1;subst fz2))
 obtain⟨Aoz17,coz17,eoz17⟩:=Kd.R_slice HOz17.out
 (first | subst eoz17 | (injection eoz17 with f1_ f2_ f3_;have fz1:=f1_.symm;have fz2:=f3_.symm;clear f1_ f2_ f3_;subst fz1;subst fz2))
 obtain⟨Aoz18,coz18,eoz18⟩:=Kd.R_slice HOz18.out
 (first | subst eoz18 | (injection eoz18 with f1_ f2_ f3_;have fz1:=f1_.symm;have fz2:=f3_.symm;clear f1_ f2_ f3_;subst fz1;subst fz2))
 refine hK.out _ _ ⟨cK BKz2.out 0,cK BKz2.out 1,cK BKz2.out 2,cK BKz2.out 3,cK BKz2.out 4,cK BKz2.out 5,cK BKz2.out 6,cK BKz2.out 7,cK BKz1.out 0,cK BKz1.out 1,cK BKz1.out 2,cK BKz1.out 3,cK BKz1.out 4,cK BKz1.out 5,cK BKz1.out 6,cK BKz1.out 7⟩ (fun hHeld => ?_)
 clear hK K
 refine nZ 24 ?_
 cases t166
 case true =>
  rw[if_pos rfl] at H
  obtain rfl:=sI H
  refine oK 3 (some 25) (bm 5 15) (fun K hK => ?_)
  refine goesN Tryz.func14 #[.agg #[.slice Aoz7 t124.length coz7,.slice Aoz8 t127.length coz8,.slice Aoz9 t130.length coz9,.int .i64 t133,.slice Aoz10 t134.length coz10,.slice Aoz11 t137.length coz11,.slice Aoz12 t140.length coz12,.int .i64 t143],.agg #[.slice Aoz13 t146.length coz13,.slice Aoz14 t149.length coz14,.slice Aoz15 t152.length coz15,.int .i64 t155,.slice Aoz16 t156.length coz16,.slice Aoz17 t159.length coz17,.slice Aoz18 t162.length coz18,.int .i64 t165]] ?_
  refine(Xau.calls k _ _ t124 _ _ t127 _ _ t130 t133 _ _ t134 _ _ t137 _ _ t140 t143 _ _ t146 _ _ t149 _ _ t152 t155 _ _ t156 _ _ t159 _ _ t162 t165 true _ (rw2 (rD HOz7.out) (rL HOz7.out)) (rw2 (sD HOz8.out) (sL HOz8.out)) (rw2 (sD HOz9.out) (sL HOz9.out)) (rw2 (sD HOz10.out) (sL HOz10.out)) (rw2 (rD HOz11.out) (rL HOz11.out)) (rw2 (rD HOz12.out) (rL HOz12.out)) (rw2 (rD HOz13.out) (rL HOz13.out)) (rw2 (sD HOz14.out) (sL HOz14.out)) (rw2 (sD HOz15.out) (sL HOz15.out)) (rw2 (sD HOz16.out) (sL HOz16.out)) (rw2 (rD HOz17.out) (rL HOz17.out)) (rw2 (rD HOz18.out) (rL HOz18.out)) A37.out).mono ?_
  rintro e wz10 ⟨rfl,hb⟩
  refine⟨_,rfl,?_⟩
  replace HOz1:=aQ HOz1 hb
  replace HOz2:=aT HOz2 hb
  replace HOz3:=aT HOz3 hb
  replace HOz4:=aT HOz4 hb
  replace HOz5:=aQ HOz5 hb
  replace HOz6:=aQ HOz6 hb
  replace HOz7:=aQ HOz7 hb
  replace HOz8:=aT HOz8 hb
  replace HOz9:=aT HOz9 hb
  replace HOz10:=aT HOz10 hb
  replace HOz11:=aQ HOz11 hb
  replace HOz12:=aQ HOz12 hb
  replace HOz13:=aQ HOz13 hb
  replace HOz14:=aT HOz14 hb
  replace HOz15:=aT HOz15 hb
  replace HOz16:=aT HOz16 hb
  replace HOz17:=aQ HOz17 hb
  replace HOz18:=aQ HOz18 hb
  replace BKz1:=aB BKz1 hb
  replace BKz2:=aB BKz2 hb
  replace HB:=aS HB hb
  (try clear hb)
  refine hK.out _ _ ⟨cK BKz2.out 0,cK BKz2.out 1,cK BKz2.out 2,cK BKz2.out 3,cK BKz2.out 4,cK BKz2.out 5,cK BKz2.out 6,cK BKz2.out 7,cK BKz1.out 0,cK BKz1.out 1,cK BKz1.out 2,cK BKz1.out 3,cK BKz1.out 4,cK BKz1.out 5,cK BKz1.out 6,cK BKz1.out 7⟩ (fun hHeld => ?_)
  clear hK K
  refine nZ 25 ?_
  refine pK 4 26 (bm 5 31) ?_
  refine done_ (by kernel_rfl) ?_
  try go_wp2
  go_ret
  exact⟨rE,(hX HB.out)⟩
 rw[if_neg nft] at H
 obtain rfl:=sI H
 refine oK 3 (some 25) (bm 5 15) (fun K hK => ?_)
 refine goesN Tryz.func14 #[.agg #[.slice Aoz7 t124.length coz7,.slice Aoz8 t127.length coz8,.slice Aoz9 t130.length coz9,.int .i64 t133,.slice Aoz10 t134.length coz10,.slice Aoz11 t137.length coz11,.slice Aoz12 t140.length coz12,.int .i64 t143],.agg #[.slice Aoz13 t146.length coz13,.slice Aoz14 t149.length coz14,.slice Aoz15 t152.length coz15,.int .i64 t155,.slice Aoz16 t156.length coz16,.slice Aoz17 t159.length coz17,.slice Aoz18 t162.length coz18,.int .i64 t165]] ?_
 refine(Xau.calls k _ _ t124 _ _ t127 _ _ t130 t133 _ _ t134 _ _ t137 _ _ t140 t143 _ _ t146 _ _ t149 _ _ t152 t155 _ _ t156 _ _ t159 _ _ t162 t165 false _ (rw2 (rD HOz7.out) (rL HOz7.out)) (rw2 (sD HOz8.out) (sL HOz8.out)) (rw2 (sD HOz9.out) (sL HOz9.out)) (rw2 (sD HOz10.out) (sL HOz10.out)) (rw2 (rD HOz11.out) (rL HOz11.out)) (rw2 (rD HOz12.out) (rL HOz12.out)) (rw2 (rD HOz13.out) (rL HOz13.out)) (rw2 (sD HOz14.out) (sL HOz14.out)) (rw2 (sD HOz15.out) (sL HOz15.out)) (rw2 (sD HOz16.out) (sL HOz16.out)) (rw2 (rD HOz17.out) (rL HOz17.out)) (rw2 (rD HOz18.out) (rL HOz18.out)) A37.out).mono ?_
 rintro e wz10 ⟨rfl,hb⟩
 refine⟨_,rfl,?_⟩
 replace HOz1:=aQ HOz1 hb
 replace HOz2:=aT HOz2 hb
 replace HOz3:=aT HOz3 hb
 replace HOz4:=aT HOz4 hb
 replace HOz5:=aQ HOz5 hb
 replace HOz6:=aQ HOz6 hb
 replace HOz7:=aQ HOz7 hb
 replace HOz8:=aT HOz8 hb
 replace HOz9:=aT HOz9 hb
 replace HOz10:=aT HOz10 hb
 replace HOz11:=aQ HOz11 hb
 replace HOz12:=aQ HOz12 hb
 replace HOz13:=aQ HOz13 hb
 replace HOz14:=aT HOz14 hb
 replace HOz15:=aT HOz15 hb
 replace HOz16:=aT HOz16 hb
 replace HOz17:=aQ HOz17 hb
 replace HOz18:=aQ HOz18 hb
 replace BKz1:=aB BKz1 hb
 replace BKz2:=aB BKz2 hb
 replace HB:=aS HB hb
 (try clear hb)
 refine hK.out _ _ ⟨cK BKz2.out 0,cK BKz2.out 1,cK BKz2.out 2,cK BKz2.out 3,cK BKz2.out 4,cK BKz2.out 5,cK BKz2.out 6,cK BKz2.out 7,cK BKz1.out 0,cK BKz1.out 1,cK BKz1.out 2,cK BKz1.out 3,cK BKz1.out 4,cK BKz1.out 5,cK BKz1.out 6,cK BKz1.out 7⟩ (fun hHeld => ?_)
 clear hK K
 refine nZ 25 ?_
 refine pK 4 26 (bm 5 31) ?_
 refine done_ (by kernel_rfl) ?_
 try go_wp2
 go_ret
 exact⟨rE,(hX HB.out)⟩

end Go.Proofs.YtmljebgideecjaaGreat.P2
namespace Go.Proofs.YtmljebgideecjaaGreat.P2
open Go.RowKit Go.Proofs.YtmljebgideecjaaGreatW.PrintWords Go.Proofs.YtmljebgideecjaaGreatW.PrintLast Go.Proofs.YtmljebgideecjaaGreatZ
abbrev rdC (c:List mC) (i:Int):mC:=rd_T73 c i
theorem cntC_zero (R:mC→Bool) (c:List mC):∀ n,cntC R c n=0 ↔ ∀ i,i<n→¬ R (rdC c (i:Int))=true
 | 0=>iff_of_true rfl (fun i hi=>absurd hi (Nat.not_lt_zero _))
 | n+1=>by
  have ih:=cntC_zero R c n
  simp only[cntC]
  constructor
  ·intro h i hi
   by_cases e:i=n
   ·subst e
    intro hr
    rw[if_pos hr] at h
    omega
   ·exact ih.mp (by omega) i (by omega)
  ·intro h
   rw[ih.mpr (fun i hi=>h i (by omega)),if_neg (h n (by omega))]
theorem cntC_one (R:mC→Bool) (c:List mC) {m:Nat} (hm:R (rdC c (m:Int))=true):∀ n,m<n→(cntC R c n=1 ↔ ∀ i,i<n→R (rdC c (i:Int))=true→i=m)
 | 0,h=>absurd h (Nat.not_lt_zero _)
 | n+1,h=>by
  simp only[cntC]
  by_cases e:m=n
  ·subst e
   rw[if_pos hm]
   have z:=cntC_zero R c m
   constructor
   ·intro a i hi hr
    apply Classical.byContradiction
    intro hn
    exact z.mp (by omega) i (by omega) hr
   ·intro a
    rw[z.mpr (fun i hi hr=>by have:=a i (by omega) hr;omega)]
  ·have ih:=cntC_one R c hm n (by omega)
   have pos:cntC R c n ≠ 0:=fun a=>(cntC_zero R c n).mp a m (by omega) hm
   constructor
   ·intro a i hi hr
    by_cases f:i=n
    ·subst f
     rw[if_pos hr] at a
     omega
    ·refine ih.mp ?_ i (by omega) hr
     by_cases g:R (rdC c (n:Int))=true
     ·rw[if_pos g] at a;omega
     ·rw[if_neg g] at a;omega
   ·intro a
    have g:¬ R (rdC c (n:Int))=true:=fun g=>by have:=a n (by omega) g;omega
    rw[if_neg g,ih.mpr (fun i hi hr=>a i (by omega) hr)]
def lastC (c:List mC) (a:Int):Nat→Int
 | 0 => -1
 | i+1=>if (rdC c (i:Int)).f0=a then (i:Int) else lastC c a i
theorem lastC_in (c:List mC) (a:Int):∀ n,-1≤lastC c a n∧lastC c a n<(n:Int)∧(0≤lastC c a n→(rdC c (lastC c a n)).f0=a)
 | 0=>by simp only[lastC];omega
 | n+1=>by
  obtain⟨h1,h2,h3⟩:=lastC_in c a n
  simp only[lastC]
  split
  ·rename_i h;exact⟨by omega,by omega,fun _=>h⟩
  ·exact⟨h1,by omega,h3⟩
def endC (a:Int) (x:mC):Bool:=decide (x.f0=a∧x.f4 ≥ 0)
def opnC (a:Int) (x:mC):Bool:=decide (x.f0=a∧x.f4<0)
def opEq (u v:mO):Bool:=((u.f0) == (v.f0) && (((u.f1) == (v.f1)) && ((u.f2) == (v.f2))))
def nowC (x:mT) (c:List mC) (l:Int):Prop:=0≤l∧(rdC c l).f4 = -1∧opEq (rdC c l).f1 (rd_T69 x.f0 x.f1)=true
def tcP (a:Int) (x:mT) (c:List mC):Prop:=(cntC (endC a) c c.length:Int)=x.f1∧(x.f2=false→cntC (opnC a) c c.length=0)∧(x.f2=true→cntC (opnC a) c c.length=1∧nowC x c (lastC c a c.length))
theorem tcP_spec (a:Int) (x:mT) (c:List mC):((∀ (i:Nat) y,c[i]? = some y→y.f0=a→y.f4<0→x.f2=true∧(i:Int)=lastC c a c.length)∧(cntC (endC a) c c.length:Int)=x.f1∧(x.f2=true→nowC x c (lastC c a c.length))) ↔ tcP a x c:=by
 obtain⟨l1,l2,l3⟩:=lastC_in c a c.length
 have conv:∀ (P:Nat→Prop),(∀ (i:Nat) y,c[i]? = some y→y.f0=a→y.f4<0→P i) ↔ (∀ i,i<c.length→opnC a (rdC c (i:Int))=true→P i):=fun P=>by
  constructor
  ·intro h i hi hr
   have er:rdC c (i:Int)=c[i]:=getD_get (List.getElem?_eq_getElem hi)
   rw[er] at hr
   unfold opnC at hr
   rw[decide_eq_true_iff] at hr
   exact h i _ (List.getElem?_eq_getElem hi) hr.1 hr.2
  ·intro h i y hy h1 h2
   have er:rdC c (i:Int)=y:=getD_get hy
   refine h i (List.getElem?_eq_some_iff.mp hy).1 ?_
   rw[er]
   unfold opnC
   rw[decide_eq_true_iff]
   exact⟨h1,h2⟩
 rw[conv]
 unfold tcP
 cases hf:x.f2
 ·constructor
  ·rintro⟨p1,p2,_⟩
   exact⟨p2,fun _=>(cntC_zero _ _ _).mpr (fun i hi hr=>Bool.noConfusion (p1 i hi hr).1),fun b=>Bool.noConfusion b⟩
  ·rintro⟨p1,p2,_⟩
   exact⟨fun i hi hr=>absurd hr ((cntC_zero _ _ _).mp (p2 rfl) i hi),p1,fun b=>Bool.noConfusion b⟩
 ·have key:nowC x c (lastC c a c.length)→(cntC (opnC a) c c.length=1 ↔ ∀ i,i<c.length→opnC a (rdC c (i:Int))=true→(i:Int)=lastC c a c.length):=fun hn=>by
   obtain⟨n1,n2,n3⟩:=hn
   obtain⟨m,hm⟩:∃ m:Nat,lastC c a c.length=(m:Int):=⟨(lastC c a c.length).toNat,by omega⟩
   have h0:=l3 n1
   rw[hm] at n2 h0 l2 ⊢
   have hr:opnC a (rdC c (m:Int))=true:=by
    unfold opnC
    rw[decide_eq_true_iff]
    exact⟨h0,by omega⟩
   rw[cntC_one _ _ hr _ (by omega)]
   exact⟨fun p i hi h=>by have:=p i hi h;omega,fun p i hi h=>by have:=p i hi h;omega⟩
  constructor
  ·rintro⟨p1,p2,p3⟩
   exact⟨p2,fun b=>Bool.noConfusion b,fun _=>⟨(key (p3 rfl)).mpr (fun i hi hr=>(p1 i hi hr).2),p3 rfl⟩⟩
  ·rintro⟨p1,_,p3⟩
   obtain⟨q1,q2⟩:=p3 rfl
   exact⟨fun i hi hr=>⟨rfl,(key q2).mp q1 i hi hr⟩,p1,fun _=>q2⟩
theorem XbR (w:List mW) (d:List mD) (t:List mT) (tm:Int) (c:List mC) (o q:List Int) (s a:Int) (hc:c.length≤1048576):Ev (fun k=>Xai.f k w d t tm c o q s a) (lastC c a c.length):=by
 have key:∀ n:Nat,n≤c.length→Ev (fun k=>Xai.l0 k a ((n:Int) - 1) w d t tm c o q s) (lastC c a n):=by
  intro n
  induction n with
  | zero =>
   intro _
   refine Ev.shift ?_
   have c0:¬ ((0:Nat):Int) - 1 ≥ 0:=by omega
   simp only[Xai.l0,c0,if_false,lastC]
   exact Ev.now _
  | succ n ih =>
   intro hn
   have e0:((n+1:Nat):Int) - 1=(n:Int):=by omega
   have c0:(n:Int) ≥ 0:=by omega
   have c1:(0:Int)≤(n:Int):=by omega
   have c2:(n:Int)<(c.length:Int):=by omega
   have e1:wrap64 ((n:Int) - 1)=(n:Int) - 1:=w64 (by omega) (by omega)
   rw[e0]
   refine Ev.shift ?_
   simp only[Xai.l0,c0,c1,c2,if_true,lastC,e1]
   by_cases h:(rd_T73 c (n:Int)).f0=a
   ·rw[if_pos h]
    exact Ev.pos h (Ev.now _)
   ·rw[if_neg h]
    exact Ev.neg h (ih (by omega))
 have:=key c.length (Nat.le_refl _)
 have hww:wrap64 ((c.length:Int) - 1)=(c.length:Int) - 1:=w64 (by omega) (by omega)
 simp only[Xai.f,hww]
 exact this
theorem XbF (w:List mW) (d:List mD) (t:List mT) (tm:Int) (c:List mC) (o q:List Int) (s:Int) (j:Nat) (x:mT) (hx:t[j]? = some x) (hn:thrN x) (hc:c.length≤1048576) :
  EvB (fun k=>XO.f k w d t tm c o q s (j:Int)) (tcP (j:Int) x c):=by
 have hjl:j<t.length:=(List.getElem?_eq_some_iff.mp hx).1
 have c0:(0:Int)≤(j:Int):=by omega
 have c1:(j:Int)<(t.length:Int):=by omega
 have er:rd_T97 t (j:Int)=x:=getD_get hx
 obtain⟨l1,l2,l3⟩:=lastC_in c (j:Int) c.length
 simp only[XO.f,c0,c1,if_true,er]
 refine EvB.at (XbR w d t tm c o q s (j:Int) hc) ?_
 refine(EvB.each c (R:=fun i y=>y.f0=(j:Int)→y.f4<0→x.f2=true∧(i:Int)=lastC c (j:Int) c.length) (Q:=(cntC (endC (j:Int)) c c.length:Int)=x.f1∧(x.f2=true→nowC x c (lastC c (j:Int) c.length)))
  (g:=fun i k=>XO.l0 k (j:Int) (lastC c (j:Int) c.length) (cntC (endC (j:Int)) c i:Int) (i:Int) w d t tm c o q s x.f0 x.f1 x.f2 x.f3 x.f4) (fun _ => ?_) (fun i y hy hi hp hb => ?_) (fun i y hy hi hp hr r h => ?_)).iff (tcP_spec (j:Int) x c)
 ·refine EvB.shift ?_
  simp only[XO.l0,Int.lt_irrefl,if_false]
  refine EvB.ite (fun h1=>EvB.ite (fun h2=>EvB.ite (fun h3 => ?_) (fun h3=>EvB.no (Ev.now _) (fun p=>h3 (p.2 h2).1))) (fun h2=>EvB.yes (Ev.now _) ⟨h1,fun a=>absurd a h2⟩)) (fun h1=>EvB.no (Ev.now _) (fun p=>h1 p.1))
  refine EvB.pos h3 (EvB.pos (by omega) ?_)
  refine EvB.ite (fun h4 => ?_) (fun h4=>EvB.no (Ev.now _) (fun p=>h4 (p.2 h2).2.1))
  have:=hn.2.2.1 h2
  have:=hn.2.1
  refine EvB.pos (by omega) (EvB.pos (by omega) (EvB.now ?_))
  exact⟨fun a=>⟨h1,fun _=>⟨h3,h4,a⟩⟩,fun p=>(p.2 h2).2.2⟩
 ·have d0:(0:Int)≤(i:Int):=by omega
  have d1:(i:Int)<(c.length:Int):=by omega
  have ec:rd_T73 c (i:Int)=y:=getD_get hy
  have h1:y.f0=(j:Int):=Classical.byContradiction fun a=>hb fun b=>absurd b a
  have h2:y.f4<0:=Classical.byContradiction fun a=>hb fun _ b=>absurd b a
  have h3:¬ y.f4 ≥ 0:=by omega
  refine Ev.shift ?_
  simp only[XO.l0,d0,d1,if_true,ec]
  refine Ev.pos h1 (Ev.neg h3 ?_)
  by_cases h4:x.f2=true
  ·exact Ev.pos h4 (Ev.neg (fun a=>hb fun _ _=>⟨h4,a⟩) (Ev.now _))
  ·exact Ev.neg h4 (Ev.now _)
 ·have d0:(0:Int)≤(i:Int):=by omega
  have d1:(i:Int)<(c.length:Int):=by omega
  have ec:rd_T73 c (i:Int)=y:=getD_get hy
  have hle:=cntC_le (endC (j:Int)) c i
  refine Ev.shift ?_
  simp only[XO.l0,d0,d1,if_true,ec,succ64 hi (by omega)]
  simp only[cntC,ec] at h
  by_cases h1:y.f0=(j:Int)
  ·refine Ev.pos h1 ?_
   by_cases h2:y.f4 ≥ 0
   ·have e1:wrap64 ((cntC (endC (j:Int)) c i:Int)+1)=((cntC (endC (j:Int)) c i+1:Nat):Int):=by rw[w64 (by omega) (by omega)];omega
    have e2:endC (j:Int) y=true:=by unfold endC;rw[decide_eq_true_iff];exact⟨h1,h2⟩
    simp only[e2,if_true] at h
    simp only[e1]
    exact Ev.pos h2 h
   ·have e2:¬ endC (j:Int) y=true:=by unfold endC;rw[decide_eq_true_iff];exact fun a=>h2 a.2
    simp only[e2,if_false,Nat.add_zero] at h
    obtain⟨g1,g2⟩:=hr h1 (by omega)
    exact Ev.neg h2 (Ev.pos g1 (Ev.pos g2 h))
  ·have e2:¬ endC (j:Int) y=true:=by unfold endC;rw[decide_eq_true_iff];exact fun a=>h1 a.1
   simp only[e2,if_false,Nat.add_zero] at h
   exact Ev.neg h1 h
theorem XbG (w:List mW) (d:List mD) (t:List mT) (tm:Int) (c:List mC) (o q:List Int) (s:Int) (j:Nat) (x:mT) (hx:t[j]? = some x) (hn:thrN x) (hc:c.length≤1048576) :
  EvB (fun k=>X3.f k w d t tm c o q s (j:Int)) (tcP (j:Int) x c):=by
 have hjl:j<t.length:=(List.getElem?_eq_some_iff.mp hx).1
 have c0:(0:Int)≤(j:Int):=by omega
 have c1:(j:Int)<(t.length:Int):=by omega
 have er:rd_T97 t (j:Int)=x:=getD_get hx
 obtain⟨l1,l2,l3⟩:=lastC_in c (j:Int) c.length
 simp only[X3.f,c0,c1,if_true,er]
 refine(EvB.each c (R:=fun _ _=>True) (Q:=tcP (j:Int) x c)
  (g:=fun i k=>X3.l0 k (j:Int) (lastC c (j:Int) i) (cntC (endC (j:Int)) c i:Int) (cntC (opnC (j:Int)) c i:Int) c (c.length:Int) (i:Int) w d t tm c o q s x.f0 x.f1 x.f2 x.f3 x.f4) (fun _ => ?_) (fun i y hy hi hp hb=>absurd trivial hb) (fun i y hy hi hp hr r h => ?_)).iff ⟨fun a=>a.2,fun a=>⟨fun _ _ _=>trivial,a⟩⟩
 ·refine EvB.shift ?_
  simp only[X3.l0,Int.lt_irrefl,if_false]
  refine EvB.ite (fun h1=>EvB.ite (fun h2=>EvB.ite (fun h3=>EvB.ite (fun h5 => ?_) (fun h5=>EvB.no (Ev.now _) (fun p=>h5 (by have:=(p.2.2 h2).1;omega)))) (fun h3=>EvB.no (Ev.now _) (fun p=>h3 (p.2.2 h2).2.1))) (fun h2=>EvB.now ?_)) (fun h1=>EvB.no (Ev.now _) (fun p=>h1 p.1))
  ·refine EvB.pos h3 (EvB.pos (by omega) ?_)
   refine EvB.ite (fun h4 => ?_) (fun h4=>EvB.no (Ev.now _) (fun p=>h4 (p.2.2 h2).2.2.1))
   have:=hn.2.2.1 h2
   have:=hn.2.1
   refine EvB.pos (by omega) (EvB.pos (by omega) (EvB.now ?_))
   exact⟨fun a=>⟨h1,fun b=>absurd h2 (by rw[b];decide),fun _=>⟨by omega,h3,h4,a⟩⟩,fun p=>(p.2.2 h2).2.2.2⟩
  ·rw[beq_iff_eq]
   have h2':x.f2=false:=by simpa using h2
   exact⟨fun a=>⟨h1,fun _=>by omega,fun b=>absurd b h2⟩,fun p=>by have:=p.2.1 h2';omega⟩
 ·have d0:(0:Int)≤(i:Int):=by omega
  have d1:(i:Int)<(c.length:Int):=by omega
  have ec:rd_T73 c (i:Int)=y:=getD_get hy
  have hle:=cntC_le (endC (j:Int)) c i
  have hle2:=cntC_le (opnC (j:Int)) c i
  refine Ev.shift ?_
  simp only[X3.l0,d0,d1,if_true,ec,succ64 hi (by omega)]
  simp only[cntC,lastC,rdC,ec] at h
  by_cases h1:y.f0=(j:Int)
  ·simp only[h1,if_true] at h
   refine Ev.pos h1 ?_
   by_cases h2:y.f4 ≥ 0
   ·have e1:wrap64 ((cntC (endC (j:Int)) c i:Int)+1)=((cntC (endC (j:Int)) c i+1:Nat):Int):=by rw[w64 (by omega) (by omega)];omega
    have e2:endC (j:Int) y=true:=by unfold endC;rw[decide_eq_true_iff];exact⟨h1,h2⟩
    have e3:¬ opnC (j:Int) y=true:=by unfold opnC;rw[decide_eq_true_iff];exact fun a=>absurd a.2 (by omega)
    simp only[e2,e3,if_true,if_false,Nat.add_zero] at h
    simp only[e1]
    exact Ev.pos h2 h
   ·have e1:wrap64 ((cntC (opnC (j:Int)) c i:Int)+1)=((cntC (opnC (j:Int)) c i+1:Nat):Int):=by rw[w64 (by omega) (by omega)];omega
    have e2:¬ endC (j:Int) y=true:=by unfold endC;rw[decide_eq_true_iff];exact fun a=>h2 a.2
    have e3:opnC (j:Int) y=true:=by unfold opnC;rw[decide_eq_true_iff];exact⟨h1,by omega⟩
    simp only[e2,e3,if_true,if_false,Nat.add_zero] at h
    simp only[e1]
    exact Ev.neg h2 h
  ·have e2:¬ endC (j:Int) y=true:=by unfold endC;rw[decide_eq_true_iff];exact fun a=>h1 a.1
   have e3:¬ opnC (j:Int) y=true:=by unfold opnC;rw[decide_eq_true_iff];exact fun a=>h1 a.1
   simp only[h1,e2,e3,if_false,Nat.add_zero] at h
   exact Ev.neg h1 h
end Go.Proofs.YtmljebgideecjaaGreat.P2
