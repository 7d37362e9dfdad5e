/- A part of the proof of the law FnExactJudgeAll: texts of this seat, merged (words, printed functions of the program, plain lemmas). Conditions: none of its own. -/
import Derived.Test.YtmljebgideecjaaGreatP2kFnExactJudgeAll44
set_option linter.unusedSimpArgs false
set_option linter.unusedVariables false
set_option maxHeartbeats 8000000
set_option maxRecDepth 100000
namespace Go.Proofs.YtmljebgideecjaaGreat.P2
open Go.Proofs.YtmljebgideecjaaGreatZ Go.RowKit Go.Proofs.YtmljebgideecjaaGreatW.PrintWords Go.Proofs.YtmljebgideecjaaGreatW.PrintLast Go.Proofs.YtmljebgideecjaaGreatW.PrintMore
attribute [local go_sem] max2_int min2_int max_two min_two max_three min_three max_four min_four   -- for this text's walks alone
def Xaw.f (k:Nat) (l0_0:List (S176)) (l0_1:List (S155)) (l0_2:List (S114)) (a0_3:Int) (l0_4:List (S119)) (l0_5:List Int) (l0_6:List Int) (a0_7:Int):Option (Bool):=(Xau.f k l0_0 l0_1 l0_2 a0_3 l0_4 l0_5 l0_6 a0_7 1048576).bind fun t102=>(if t102<0 then (some true) else ((Xai.f k l0_0 l0_1 l0_2 a0_3 l0_4 l0_5 l0_6 a0_7).bind fun bt103=>((XaO.f k bt103.1 bt103.2.1 bt103.2.2.1 bt103.2.2.2.1 bt103.2.2.2.2.1 bt103.2.2.2.2.2.1 bt103.2.2.2.2.2.2.1 bt103.2.2.2.2.2.2.2).bind fun t123=>((Xai.f k l0_0 l0_1 l0_2 a0_3 l0_4 l0_5 l0_6 a0_7).bind fun bt124=>((XaP.f k bt124.1 bt124.2.1 bt124.2.2.1 bt124.2.2.2.1 bt124.2.2.2.2.1 bt124.2.2.2.2.2.1 bt124.2.2.2.2.2.2.1 bt124.2.2.2.2.2.2.2).bind fun t145=>(if (t145 != t123)=true then (some false) else ((Xai.f k l0_0 l0_1 l0_2 a0_3 l0_4 l0_5 l0_6 a0_7).bind fun bt146=>((Xav.f k bt124.1 bt124.2.1 bt124.2.2.1 bt124.2.2.2.1 bt124.2.2.2.2.1 bt124.2.2.2.2.2.1 bt124.2.2.2.2.2.2.1 bt124.2.2.2.2.2.2.2 bt146.1 bt146.2.1 bt146.2.2.1 bt146.2.2.2.1 bt146.2.2.2.2.1 bt146.2.2.2.2.2.1 bt146.2.2.2.2.2.2.1 bt146.2.2.2.2.2.2.2).bind fun t166=>(if t166=true then (some true) else (some false))))))))))
theorem Xaw.calls (k:Nat) (A0_0:Option Addr) (c0_0:Nat) (l0_0:List (S176)) (A0_1:Option Addr) (c0_1:Nat) (l0_1:List (S155)) (A0_2:Option Addr) (c0_2:Nat) (l0_2:List (S114)) (a0_3:Int) (A0_4:Option Addr) (c0_4:Nat) (l0_4:List (S119)) (A0_5:Option Addr) (c0_5:Nat) (l0_5:List Int) (A0_6:Option Addr) (c0_6:Nat) (l0_6:List Int) (a0_7:Int) (r:Bool) (w:World) (hr0_0:Kd.C k176 w A0_0 l0_0.length l0_0) (hc0_0:l0_0.length≤c0_0) (hr0_1:Kd.C k155 w A0_1 l0_1.length l0_1) (hc0_1:l0_1.length≤c0_1) (hr0_2:Kd.C k114 w A0_2 l0_2.length l0_2) (hc0_2:l0_2.length≤c0_2) (hr0_4:Kd.C k119 w A0_4 l0_4.length l0_4) (hc0_4:l0_4.length≤c0_4) (hr0_5:Kd.C (Kd.int .i64) w A0_5 l0_5.length l0_5) (hc0_5:l0_5.length≤c0_5) (hr0_6:Kd.C (Kd.int .i64) w A0_6 l0_6.length l0_6) (hc0_6:l0_6.length≤c0_6) (h:Xaw.f k l0_0 l0_1 l0_2 a0_3 l0_4 l0_5 l0_6 a0_7=some r) :
  Calls Tryz.prog 9 #[.agg #[.slice A0_0 l0_0.length c0_0,.slice A0_1 l0_1.length c0_1,.slice A0_2 l0_2.length c0_2,.int .i64 a0_3,.slice A0_4 l0_4.length c0_4,.slice A0_5 l0_5.length c0_5,.slice A0_6 l0_6.length c0_6,.int .i64 a0_7]] w fun e w'=>e = .returned (.bool r)∧Below w.heap.size w w':=by
 have hu32:=Tryz.underlying32
 have hu43:=Tryz.underlying43
 have HR0_0:=aM hr0_0
 have HC0_0:=aM hc0_0
 clear hr0_0 hc0_0
 have HR0_1:=aM hr0_1
 have HC0_1:=aM hc0_1
 clear hr0_1 hc0_1
 have HR0_2:=aM hr0_2
 have HC0_2:=aM hc0_2
 clear hr0_2 hc0_2
 have HR0_4:=aM hr0_4
 have HC0_4:=aM hc0_4
 clear hr0_4 hc0_4
 have HR0_5:=aM hr0_5
 have HC0_5:=aM hc0_5
 clear hr0_5 hc0_5
 have HR0_6:=aM hr0_6
 have HC0_6:=aM hc0_6
 clear hr0_6 hc0_6
 have HB:=aM (Below.refl w.heap.size w)
 have H:=h
 unfold Xaw.f at H
 clear h
 replace H:=bE H;obtain⟨t102,A2,H⟩:=H
 go_enter Tryz.func9,Tryz.ntmps9
 go_wp2_with (refine boxE 1 #[.slice A0_0 l0_0.length c0_0,.slice A0_1 l0_1.length c0_1,.slice A0_2 l0_2.length c0_2,.int .i64 a0_3,.slice A0_4 l0_4.length c0_4,.slice A0_5 l0_5.length c0_5,.slice A0_6 l0_6.length c0_6,.int .i64 a0_7] 32 ?_;intro gbz1 hg wz1 hbox hb;have BKz1:=aM (hbox);have GWz1:=aG hg HB;replace HB:=aS HB hb;clear hb hbox hg;have hczz1:=cZ8 BKz1.out;refine Stop.out ?_)
 refine⟨?_⟩
 revert H;refine iP ?_ ?_<;>intro c3b0 H
 ·obtain rfl:=sI H
  go_wp2_with (refine gB 10 9 Tryz.func10 (Xau.calls _ _ _ _ _ _ _ _ _ _ _ _ _ _ _ _ _ _ _ _ _ _ _ _ (rW HR0_0 HB HC0_0) (rW HR0_1 HB HC0_1) (rW HR0_2 HB HC0_2) (rW HR0_4 HB HC0_4) (rW HR0_5 HB HC0_5) (rW HR0_6 HB HC0_6) A2.out) ?_;intro wz2 hb;replace BKz1:=aB BKz1 hb;replace HB:=aS HB hb;clear hb)
  go_ret
  exact⟨rE,(hX HB.out)⟩
 replace H:=bE H;obtain⟨⟨t103,t106,t109,t112,t113,t116,t119,t122⟩,A7,H⟩:=H
 try dsimp only at H
 replace H:=bE H;obtain⟨t123,A8,H⟩:=H
 replace H:=bE H;obtain⟨⟨t124,t127,t130,t133,t134,t137,t140,t143⟩,A9,H⟩:=H
 try dsimp only at H
 replace H:=bE H;obtain⟨t145,A10,H⟩:=H
 go_wp2_with (first | ((with_reducible refine gate_callee (f:=10) rfl ?_);refine gB 10 9 Tryz.func10 (Xau.calls _ _ _ _ _ _ _ _ _ _ _ _ _ _ _ _ _ _ _ _ _ _ _ _ (rW HR0_0 HB HC0_0) (rW HR0_1 HB HC0_1) (rW HR0_2 HB HC0_2) (rW HR0_4 HB HC0_4) (rW HR0_5 HB HC0_5) (rW HR0_6 HB HC0_6) A2.out) ?_;intro wz2 hb;replace BKz1:=aB BKz1 hb;replace HB:=aS HB hb;clear hb;have hczz9:=cZ8 BKz1.out) | (refine goesM 12 13 Tryz.func12 #[.agg #[.slice A0_0 l0_0.length c0_0,.slice A0_1 l0_1.length c0_1,.slice A0_2 l0_2.length c0_2,.int .i64 a0_3,.slice A0_4 l0_4.length c0_4,.slice A0_5 l0_5.length c0_5,.slice A0_6 l0_6.length c0_6,.int .i64 a0_7]] ?_;refine(Xai.calls _ _ _ _ _ _ _ _ _ _ _ _ _ _ _ _ _ _ _ _ _ _ _ _ _ _ _ _ _ _ (rW HR0_0 HB HC0_0) (rW HR0_1 HB HC0_1) (rW HR0_2 HB HC0_2) (rW HR0_4 HB HC0_4) (rW HR0_5 HB HC0_5) (rW HR0_6 HB HC0_6) A7.out).mono ?_;rintro e wz3 ⟨vz1,vz2,vz3,vz4,vz5,vz6,rfl,hoz1,hoz2,hoz3,hoz4,hoz5,hoz6,hb⟩;refine⟨_,rfl,?_⟩;have HOz1:=aM (Kd.R_lower hoz1 (below_size (hX HB.out)));have HOz2:=aM (Kd.S_lower hoz2 (below_size (hX HB.out)));have HOz3:=aM (Kd.S_lower hoz3 (below_size (hX HB.out)));have HOz4:=aM (Kd.S_lower hoz4 (below_size (hX HB.out)));have HOz5:=aM (Kd.R_lower hoz5 (below_size (hX HB.out)));have HOz6:=aM (Kd.R_lower hoz6 (below_size (hX HB.out)));replace BKz1:=aB BKz1 hb;replace HB:=aS HB hb;clear hb hoz1 hoz2 hoz3 hoz4 hoz5 hoz6;obtain⟨Aoz1,coz1,eoz1⟩:=Kd.R_slice HOz1.out;subst eoz1;obtain⟨Aoz2,coz2,eoz2⟩:=Kd.S_slice HOz2.out;subst eoz2;obtain⟨Aoz3,coz3,eoz3⟩:=Kd.S_slice HOz3.out;subst eoz3;obtain⟨Aoz4,coz4,eoz4⟩:=Kd.S_slice HOz4.out;subst eoz4;obtain⟨Aoz5,coz5,eoz5⟩:=Kd.R_slice HOz5.out;subst eoz5;obtain⟨Aoz6,coz6,eoz6⟩:=Kd.R_slice HOz6.out;subst eoz6) | ((with_reducible refine gate_callee (f:=36) rfl ?_);refine gB 36 14 Tryz.func36 (XaO.calls _ _ _ _ _ _ _ _ _ _ _ _ _ _ _ _ _ _ _ _ _ _ _ (rw2 (cX (Kd.R_reads' HOz1.out).2.2) ((Kd.R_reads' HOz1.out).2.1)) (rw2 (cX (Kd.S_reads' HOz2.out).2.2) ((Kd.S_reads' HOz2.out).2.1)) (rw2 (cX (Kd.S_reads' HOz3.out).2.2) ((Kd.S_reads' HOz3.out).2.1)) (rw2 (cX (Kd.S_reads' HOz4.out).2.2) ((Kd.S_reads' HOz4.out).2.1)) (rw2 (cX (Kd.R_reads' HOz5.out).2.2) ((Kd.R_reads' HOz5.out).2.1)) (rw2 (cX (Kd.R_reads' HOz6.out).2.2) ((Kd.R_reads' HOz6.out).2.1)) A8.out) ?_;intro wz4 hb;replace HOz1:=aQ HOz1 hb;replace HOz2:=aT HOz2 hb;replace HOz3:=aT HOz3 hb;replace HOz4:=aT HOz4 hb;replace HOz5:=aQ HOz5 hb;replace HOz6:=aQ HOz6 hb;replace BKz1:=aB BKz1 hb;replace HB:=aS HB hb;clear hb;have hczz17:=cZ8 BKz1.out) | (refine goesM 12 16 Tryz.func12 #[.agg #[.slice A0_0 l0_0.length c0_0,.slice A0_1 l0_1.length c0_1,.slice A0_2 l0_2.length c0_2,.int .i64 a0_3,.slice A0_4 l0_4.length c0_4,.slice A0_5 l0_5.length c0_5,.slice A0_6 l0_6.length c0_6,.int .i64 a0_7]] ?_;refine(Xai.calls _ _ _ _ _ _ _ _ _ _ _ _ _ _ _ _ _ _ _ _ _ _ _ _ _ _ _ _ _ _ (rW HR0_0 HB HC0_0) (rW HR0_1 HB HC0_1) (rW HR0_2 HB HC0_2) (rW HR0_4 HB HC0_4) (rW HR0_5 HB HC0_5) (rW HR0_6 HB HC0_6) A9.out).mono ?_;rintro e wz5 ⟨vz7,vz8,vz9,vz10,vz11,vz12,rfl,hoz1,hoz2,hoz3,hoz4,hoz5,hoz6,hb⟩;refine⟨_,rfl,?_⟩;have HOz7:=aM (Kd.R_lower (Kd.R_new' hoz1 (Kd.R_lt (rX HOz1.out))) (below_size (hX HB.out)));have HOz8:=aM (Kd.S_lower (Kd.S_new' (Kd.S_new' (Kd.S_new' hoz2 (Kd.S_lt (sX HOz2.out))) (Kd.R_lt (rX HOz5.out))) (Kd.R_lt (rX HOz6.out))) (below_size (hX HB.out)));have HOz9:=aM (Kd.S_lower (Kd.S_new' hoz3 (Kd.S_lt (sX HOz3.out))) (below_size (hX HB.out)));have HOz10:=aM (Kd.S_lower (Kd.S_new' (Kd.S_new' (Kd.S_new' hoz4 (Kd.S_lt (sX HOz4.out))) (Kd.R_lt (rX HOz5.out))) (Kd.R_lt (rX HOz6.out))) (below_size (hX HB.out)));have HOz11:=aM (Kd.R_lower (Kd.R_new' (Kd.R_new' hoz5 (Kd.R_lt (rX HOz5.out))) (Kd.R_lt (rX HOz6.out))) (below_size (hX HB.out)));have HOz12:=aM (Kd.R_lower (Kd.R_new' (Kd.R_new' hoz6 (Kd.R_lt (rX HOz5.out))) (Kd.R_lt (rX HOz6.out))) (below_size (hX HB.out)));replace HOz1:=aM (Kd.R_elder' (rX HOz1.out) (Kd.R_base hoz1) hb);replace HOz2:=aM (Kd.S_mono (Kd.S_told (Kd.S_told (Kd.S_told (Kd.S_old (sX HOz2.out) hb) (Kd.S_base hoz2)) (Kd.R_base hoz5)) (Kd.R_base hoz6)) (fun _ h_=>h_.1));replace HOz3:=aM (Kd.S_elder' (sX HOz3.out) (Kd.S_base hoz3) hb);replace HOz4:=aM (Kd.S_mono (Kd.S_told (Kd.S_told (Kd.S_told (Kd.S_old (sX HOz4.out) hb) (Kd.S_base hoz4)) (Kd.R_base hoz5)) (Kd.R_base hoz6)) (fun _ h_=>h_.1));replace HOz5:=aM (Kd.R_mono (Kd.R_told (Kd.R_told (Kd.R_old (rX HOz5.out) hb) (Kd.R_base hoz5)) (Kd.R_base hoz6)) (fun _ h_=>h_.1));replace HOz6:=aM (Kd.R_mono (Kd.R_told (Kd.R_told (Kd.R_old (rX HOz6.out) hb) (Kd.R_base hoz5)) (Kd.R_base hoz6)) (fun _ h_=>h_.1));replace BKz1:=aB BKz1 hb;replace HB:=aS HB hb;clear hb hoz1 hoz2 hoz3 hoz4 hoz5 hoz6) | (refine boxE 5 #[.slice none 0 0,.slice none 0 0,.slice none 0 0,.int .i64 0,.slice none 0 0,.slice none 0 0,.slice none 0 0,.int .i64 0] 43 ?_;intro gbz2 hg wz6 hbox hb;have BKz2:=aM (hbox);have GWz2:=aG hg HB;have NBz1:=aL hg BKz1;have NBz2:=aR hg BKz1;replace HOz1:=aQ HOz1 hb;replace HOz2:=aT HOz2 hb;replace HOz3:=aT HOz3 hb;replace HOz4:=aT HOz4 hb;replace HOz5:=aQ HOz5 hb;replace HOz6:=aQ HOz6 hb;replace HOz7:=aQ HOz7 hb;replace HOz8:=aT HOz8 hb;replace HOz9:=aT HOz9 hb;replace HOz10:=aT HOz10 hb;replace HOz11:=aQ HOz11 hb;replace HOz12:=aQ HOz12 hb;replace BKz1:=aB BKz1 hb;replace HB:=aS HB hb;clear hb hbox hg;obtain⟨Aoz7,coz7,eoz7⟩:=Kd.R_slice HOz7.out;subst eoz7;have hnbz1:=nB NBz2 NBz1;have hczz25:=cZ8 BKz2.out;obtain⟨Aoz8,coz8,eoz8⟩:=Kd.S_slice HOz8.out;subst eoz8;obtain⟨Aoz9,coz9,eoz9⟩:=Kd.S_slice HOz9.out;subst eoz9;obtain⟨Aoz10,coz10,eoz10⟩:=Kd.S_slice HOz10.out;subst eoz10;obtain⟨Aoz11,coz11,eoz11⟩:=Kd.R_slice HOz11.out;subst eoz11;obtain⟨Aoz12,coz12,eoz12⟩:=Kd.R_slice HOz12.out;subst eoz12) | ((with_reducible refine gate_callee (f:=37) rfl ?_);refine gB 37 18 Tryz.func37 (XaP.calls _ _ _ _ _ _ _ _ _ _ _ _ _ _ _ _ _ _ _ _ _ _ _ (rw2 (rR HOz7.out BKz2.out) ((Kd.R_reads' HOz7.out).2.1)) (rw2 (sR HOz8.out BKz2.out) ((Kd.S_reads' HOz8.out).2.1)) (rw2 (sR HOz9.out BKz2.out) ((Kd.S_reads' HOz9.out).2.1)) (rw2 (sR HOz10.out BKz2.out) ((Kd.S_reads' HOz10.out).2.1)) (rw2 (rR HOz11.out BKz2.out) ((Kd.R_reads' HOz11.out).2.1)) (rw2 (rR HOz12.out BKz2.out) ((Kd.R_reads' HOz12.out).2.1)) A10.out) ?_;intro wz7 hb;replace HOz1:=aM (Kd.R_below (rF HOz1.out BKz2.out) hb);replace HOz2:=aM (Kd.S_below (sF HOz2.out BKz2.out) hb);replace HOz3:=aM (Kd.S_below (sF HOz3.out BKz2.out) hb);replace HOz4:=aM (Kd.S_below (sF HOz4.out BKz2.out) hb);replace HOz5:=aM (Kd.R_below (rF HOz5.out BKz2.out) hb);replace HOz6:=aM (Kd.R_below (rF HOz6.out BKz2.out) hb);replace HOz7:=aM (Kd.R_below (rF HOz7.out BKz2.out) hb);replace HOz8:=aM (Kd.S_below (sF HOz8.out BKz2.out) hb);replace HOz9:=aM (Kd.S_below (sF HOz9.out BKz2.out) hb);replace HOz10:=aM (Kd.S_below (sF HOz10.out BKz2.out) hb);replace HOz11:=aM (Kd.R_below (rF HOz11.out BKz2.out) hb);replace HOz12:=aM (Kd.R_below (rF HOz12.out BKz2.out) hb);replace BKz1:=aF BKz1 hb;replace BKz2:=aM (blk_below (g:=gbz2) (o:=.cells #[.slice Aoz7 t124.length coz7,.slice Aoz8 t127.length coz8,.slice Aoz9 t130.length coz9,.int .i64 t133,.slice Aoz10 t134.length coz10,.slice Aoz11 t137.length coz11,.slice Aoz12 t140.length coz12,.int .i64 t143] 43 (0,0)) (bP BKz2.out) hb);replace HB:=aS HB hb;clear hb;refine Stop.out ?_))
 refine⟨?_⟩
 by_cases c11:(t145 != t123)=true
 ·rw[if_pos c11] at H
  have c11b0:(t145 != t123)=true:=c11
  (try (have c11b1:decide (t145=t123)=false:=by simpa using c11))
  (try (have c11b2:(t145 == t123)=false:=by simpa using c11))
  (try (have c11b3:¬ (t145=t123):=by simpa using c11))
  clear c11
  exact fR
 rw[if_neg c11] at H
 have c11b0:(t145 != t123)=false:=by simpa using c11
 (try (have c11b1:decide (t145=t123)=true:=by simpa using c11))
 (try (have c11b2:(t145 == t123)=true:=by simpa using c11))
 clear c11
 replace H:=bE H;obtain⟨⟨t146,t149,t152,t155,t156,t159,t162,t165⟩,A36,H⟩:=H
 try dsimp only at H
 replace H:=bE H;obtain⟨t166,A37,H⟩:=H
 try go_wp2
 replace HOz1:=aM (Kd.R_drew HOz1.out)
 replace HOz2:=aM (Kd.S_drew HOz2.out)
 replace HOz3:=aM (Kd.S_drew HOz3.out)
 replace HOz4:=aM (Kd.S_drew HOz4.out)
 replace HOz5:=aM (Kd.R_drew HOz5.out)
 replace HOz6:=aM (Kd.R_drew HOz6.out)
 replace HOz7:=aM (Kd.R_drew HOz7.out)
 replace HOz8:=aM (Kd.S_drew HOz8.out)
 replace HOz9:=aM (Kd.S_drew HOz9.out)
 replace HOz10:=aM (Kd.S_drew HOz10.out)
 replace HOz11:=aM (Kd.R_drew HOz11.out)
 replace HOz12:=aM (Kd.R_drew HOz12.out)
 replace BKz1:=aM (blk_drew BKz1.out)
 replace BKz2:=aM (blk_drew BKz2.out)
 replace HB:=aM (below_drew1 HB.out)
 refine start_ (n:=5) (S:=fun w'=>w'.cell? ⟨gbz2,0,none⟩=some (.slice Aoz7 t124.length coz7)∧w'.cell? ⟨gbz2,1,none⟩=some (.slice Aoz8 t127.length coz8)∧w'.cell? ⟨gbz2,2,none⟩=some (.slice Aoz9 t130.length coz9)∧w'.cell? ⟨gbz2,3,none⟩=some (.int .i64 t133)∧w'.cell? ⟨gbz2,4,none⟩=some (.slice Aoz10 t134.length coz10)∧w'.cell? ⟨gbz2,5,none⟩=some (.slice Aoz11 t137.length coz11)∧w'.cell? ⟨gbz2,6,none⟩=some (.slice Aoz12 t140.length coz12)∧w'.cell? ⟨gbz2,7,none⟩=some (.int .i64 t143)∧w'.cell? ⟨gbz1,0,none⟩=some (.slice A0_0 l0_0.length c0_0)∧w'.cell? ⟨gbz1,1,none⟩=some (.slice A0_1 l0_1.length c0_1)∧w'.cell? ⟨gbz1,2,none⟩=some (.slice A0_2 l0_2.length c0_2)∧w'.cell? ⟨gbz1,3,none⟩=some (.int .i64 a0_3)∧w'.cell? ⟨gbz1,4,none⟩=some (.slice A0_4 l0_4.length c0_4)∧w'.cell? ⟨gbz1,5,none⟩=some (.slice A0_5 l0_5.length c0_5)∧w'.cell? ⟨gbz1,6,none⟩=some (.slice A0_6 l0_6.length c0_6)∧w'.cell? ⟨gbz1,7,none⟩=some (.int .i64 a0_7)) (ds:=[]) (bm 5 0) (by kernel_rfl) rfl (by kernel_rfl) ⟨cK BKz2.out 0,cK BKz2.out 1,cK BKz2.out 2,cK BKz2.out 3,cK BKz2.out 4,cK BKz2.out 5,cK BKz2.out 6,cK BKz2.out 7,cK BKz1.out 0,cK BKz1.out 1,cK BKz1.out 2,cK BKz1.out 3,cK BKz1.out 4,cK BKz1.out 5,cK BKz1.out 6,cK BKz1.out 7⟩ (fun hHeld => ?_)
 generalize wz7.drew=wz8 at HOz1 HOz2 HOz3 HOz4 HOz5 HOz6 HOz7 HOz8 HOz9 HOz10 HOz11 HOz12 BKz1 BKz2 HB hHeld ⊢
 refine tK 0 22 (bm 5 1) hHeld ?_
 refine tK 1 23 (bm 5 3) hHeld ?_
 refine oK 2 (some 24) (bm 5 7) (fun K hK => ?_)
 refine goesN Tryz.func12 #[.agg #[.slice A0_0 l0_0.length c0_0,.slice A0_1 l0_1.length c0_1,.slice A0_2 l0_2.length c0_2,.int .i64 a0_3,.slice A0_4 l0_4.length c0_4,.slice A0_5 l0_5.length c0_5,.slice A0_6 l0_6.length c0_6,.int .i64 a0_7]] ?_
 refine(Xai.calls k _ _ l0_0 _ _ l0_1 _ _ l0_2 a0_3 _ _ l0_4 _ _ l0_5 _ _ l0_6 a0_7 t146 t149 t152 t155 t156 t159 t162 t165 _ (rW HR0_0 HB HC0_0) (rW HR0_1 HB HC0_1) (rW HR0_2 HB HC0_2) (rW HR0_4 HB HC0_4) (rW HR0_5 HB HC0_5) (rW HR0_6 HB HC0_6) A36.out).mono ?_
 rintro e wz9 ⟨vz13,vz14,vz15,vz16,vz17,vz18,rfl,hoz1,hoz2,hoz3,hoz4,hoz5,hoz6,hb⟩
 refine⟨_,rfl,?_⟩
 have HOz13:=aM (Kd.R_lower (Kd.R_new' (Kd.R_new' hoz1 (Kd.R_lt (rX HOz1.out))) (Kd.R_lt (rX HOz7.out))) (below_size (hX HB.out)))
 have HOz14:=aM (Kd.S_lower (Kd.S_new' (Kd.S_new' (Kd.S_new' (Kd.S_new' (Kd.S_new' (Kd.S_new' hoz2 (Kd.S_lt (sX HOz2.out))) (Kd.R_lt (rX HOz5.out))) (Kd.R_lt (rX HOz6.out))) (Kd.S_lt (sX HOz8.out))) (Kd.R_lt (rX HOz11.out))) (Kd.R_lt (rX HOz12.out))) (below_size (hX HB.out)))
 have HOz15:=aM (Kd.S_lower (Kd.S_new' (Kd.S_new' hoz3 (Kd.S_lt (sX HOz3.out))) (Kd.S_lt (sX HOz9.out))) (below_size (hX HB.out)))
 have HOz16:=aM (Kd.S_lower (Kd.S_new' (Kd.S_new' (Kd.S_new' (Kd.S_new' (Kd.S_new' (Kd.S_new' hoz4 (Kd.S_lt (sX HOz4.out))) (Kd.R_lt (rX HOz5.out))) (Kd.R_lt (rX HOz6.out))) (Kd.S_lt (sX HOz10.out))) (Kd.R_lt (rX HOz11.out))) (Kd.R_lt (rX HOz12.out))) (below_size (hX HB.out)))
 have HOz17:=aM (Kd.R_lower (Kd.R_new' (Kd.R_new' (Kd.R_new' (Kd.R_new' hoz5 (Kd.R_lt (rX HOz5.out))) (Kd.R_lt (rX HOz6.out))) (Kd.R_lt (rX HOz11.out))) (Kd.R_lt (rX HOz12.out))) (below_size (hX HB.out)))
 have HOz18:=aM (Kd.R_lower (Kd.R_new' (Kd.R_new' (Kd.R_new' (Kd.R_new' hoz6 (Kd.R_lt (rX HOz5.out))) (Kd.R_lt (rX HOz6.out))) (Kd.R_lt (rX HOz11.out))) (Kd.R_lt (rX HOz12.out))) (below_size (hX HB.out)))
 replace HOz1:=aM (Kd.R_elder' (rX HOz1.out) (Kd.R_base hoz1) hb)
 replace HOz2:=aM (Kd.S_mono (Kd.S_told (Kd.S_told (Kd.S_told (Kd.S_old (sX HOz2.out) hb) (Kd.S_base hoz2)) (Kd.R_base hoz5)) (Kd.R_base hoz6)) (fun _ h_=>h_.1))
 replace HOz3:=aM (Kd.S_elder' (sX HOz3.out) (Kd.S_base hoz3) hb)
 replace HOz4:=aM (Kd.S_mono (Kd.S_told (Kd.S_told (Kd.S_told (Kd.S_old (sX HOz4.out) hb) (Kd.S_base hoz4)) (Kd.R_base hoz5)) (Kd.R_base hoz6)) (fun _ h_=>h_.1))
 replace HOz5:=aM (Kd.R_mono (Kd.R_told (Kd.R_told (Kd.R_old (rX HOz5.out) hb) (Kd.R_base hoz5)) (Kd.R_base hoz6)) (fun _ h_=>h_.1))
 replace HOz6:=aM (Kd.R_mono (Kd.R_told (Kd.R_told (Kd.R_old (rX HOz6.out) hb) (Kd.R_base hoz5)) (Kd.R_base hoz6)) (fun _ h_=>h_.1))
 replace HOz7:=aM (Kd.R_elder' (rX HOz7.out) (Kd.R_base hoz1) hb)
 replace HOz8:=aM (Kd.S_mono (Kd.S_told (Kd.S_told (Kd.S_told (Kd.S_old (sX HOz8.out) hb) (Kd.S_base hoz2)) (Kd.R_base hoz5)) (Kd.R_base hoz6)) (fun _ h_=>h_.1))
 replace HOz9:=aM (Kd.S_elder' (sX HOz9.out) (Kd.S_base hoz3) hb)
 replace HOz10:=aM (Kd.S_mono (Kd.S_told (Kd.S_told (Kd.S_told (Kd.S_old (sX HOz10.out) hb) (Kd.S_base hoz4)) (Kd.R_base hoz5)) (Kd.R_base hoz6)) (fun _ h_=>h_.1))
 replace HOz11:=aM (Kd.R_mono (Kd.R_told (Kd.R_told (Kd.R_old (rX HOz11.out) hb) (Kd.R_base hoz5)) (Kd.R_base hoz6)) (fun _ h_=>h_.1))
 replace HOz12:=aM (Kd.R_mono (Kd.R_told (Kd.R_told (Kd.R_old (rX HOz12.out) hb) (Kd.R_base hoz5)) (Kd.R_base hoz6)) (fun _ h_=>h_.1))
 replace BKz1:=aB BKz1 hb
 replace BKz2:=aB BKz2 hb
 replace HB:=aS HB hb
 (try clear hb)
 (try clear hoz1)
 (try clear hoz2)
 (try clear hoz3)
 (try clear hoz4)
 (try clear hoz5)
 (try clear hoz6)
 obtain⟨Aoz13,coz13,eoz13⟩:=Kd.R_slice HOz13.out
 (first | subst eoz13 | (injection eoz13 with f1_ f2_ f3_;have fz1:=f1_.symm;have fz2:=f3_.symm;clear f1_ f2_ f3_;subst fz1;subst fz2))
 obtain⟨Aoz14,coz14,eoz14⟩:=Kd.S_slice HOz14.out
 (first | subst eoz14 | (injection eoz14 with f1_ f2_ f3_;have fz1:=f1_.symm;have fz2:=f3_.symm;clear f1_ f2_ f3_;subst fz1;subst fz2))
 obtain⟨Aoz15,coz15,eoz15⟩:=Kd.S_slice HOz15.out
 (first | subst eoz15 | (injection eoz15 with f1_ f2_ f3_;have fz1:=f1_.symm;have fz2:=f3_.symm;clear f1_ f2_ f3_;subst fz1;subst fz2))
 obtain⟨Aoz16,coz16,eoz16⟩:=Kd.S_slice HOz16.out
 (first | subst eoz16 | (injection eoz16 with f1_ f2_ f3_;have fz1:=f1_.symm;have fz2:=f3_.symm;clear f1_ f2_ f3_;subst fz1;subst fz2))
 obtain⟨Aoz17,coz17,eoz17⟩:=Kd.R_slice HOz17.out
 (first | subst eoz17 | (injection eoz17 with f1_ f2_ f3_;have fz1:=f1_.symm;have fz2:=f3_.symm;clear f1_ f2_ f3_;subst fz1;subst fz2))
 obtain⟨Aoz18,coz18,eoz18⟩:=Kd.R_slice HOz18.out
 (first | subst eoz18 | (injection eoz18 with f1_ f2_ f3_;have fz1:=f1_.symm;have fz2:=f3_.symm;clear f1_ f2_ f3_;subst fz1;subst fz2))
 refine hK.out _ _ ⟨cK BKz2.out 0,cK BKz2.out 1,cK BKz2.out 2,cK BKz2.out 3,cK BKz2.out 4,cK BKz2.out 5,cK BKz2.out 6,cK BKz2.out 7,cK BKz1.out 0,cK BKz1.out 1,cK BKz1.out 2,cK BKz1.out 3,cK BKz1.out 4,cK BKz1.out 5,cK BKz1.out 6,cK BKz1.out 7⟩ (fun hHeld => ?_)
 clear hK K
 refine nZ 24 ?_
 cases t166
 case true =>
  rw[if_pos rfl] at H
  obtain rfl:=sI H
  refine oK 3 (some 25) (bm 5 15) (fun K hK => ?_)
  refine goesN Tryz.func14 #[.agg #[.slice Aoz7 t124.length coz7,.slice Aoz8 t127.length coz8,.slice Aoz9 t130.length coz9,.int .i64 t133,.slice Aoz10 t134.length coz10,.slice Aoz11 t137.length coz11,.slice Aoz12 t140.length coz12,.int .i64 t143],.agg #[.slice Aoz13 t146.length coz13,.slice Aoz14 t149.length coz14,.slice Aoz15 t152.length coz15,.int .i64 t155,.slice Aoz16 t156.length coz16,.slice Aoz17 t159.length coz17,.slice Aoz18 t162.length coz18,.int .i64 t165]] ?_
  refine(Xav.calls k _ _ t124 _ _ t127 _ _ t130 t133 _ _ t134 _ _ t137 _ _ t140 t143 _ _ t146 _ _ t149 _ _ t152 t155 _ _ t156 _ _ t159 _ _ t162 t165 true _ (rw2 (rD HOz7.out) (rL HOz7.out)) (rw2 (sD HOz8.out) (sL HOz8.out)) (rw2 (sD HOz9.out) (sL HOz9.out)) (rw2 (sD HOz10.out) (sL HOz10.out)) (rw2 (rD HOz11.out) (rL HOz11.out)) (rw2 (rD HOz12.out) (rL HOz12.out)) (rw2 (rD HOz13.out) (rL HOz13.out)) (rw2 (sD HOz14.out) (sL HOz14.out)) (rw2 (sD HOz15.out) (sL HOz15.out)) (rw2 (sD HOz16.out) (sL HOz16.out)) (rw2 (rD HOz17.out) (rL HOz17.out)) (rw2 (rD HOz18.out) (rL HOz18.out)) A37.out).mono ?_
  rintro e wz10 ⟨rfl,hb⟩
  refine⟨_,rfl,?_⟩
  replace HOz1:=aQ HOz1 hb
  replace HOz2:=aT HOz2 hb
  replace HOz3:=aT HOz3 hb
  replace HOz4:=aT HOz4 hb
  replace HOz5:=aQ HOz5 hb
  replace HOz6:=aQ HOz6 hb
  replace HOz7:=aQ HOz7 hb
  replace HOz8:=aT HOz8 hb
  replace HOz9:=aT HOz9 hb
  replace HOz10:=aT HOz10 hb
  replace HOz11:=aQ HOz11 hb
  replace HOz12:=aQ HOz12 hb
  replace HOz13:=aQ HOz13 hb
  replace HOz14:=aT HOz14 hb
  replace HOz15:=aT HOz15 hb
  replace HOz16:=aT HOz16 hb
  replace HOz17:=aQ HOz17 hb
  replace HOz18:=aQ HOz18 hb
  replace BKz1:=aB BKz1 hb
  replace BKz2:=aB BKz2 hb
  replace HB:=aS HB hb
  (try clear hb)
  refine hK.out _ _ ⟨cK BKz2.out 0,cK BKz2.out 1,cK BKz2.out 2,cK BKz2.out 3,cK BKz2.out 4,cK BKz2.out 5,cK BKz2.out 6,cK BKz2.out 7,cK BKz1.out 0,cK BKz1.out 1,cK BKz1.out 2,cK BKz1.out 3,cK BKz1.out 4,cK BKz1.out 5,cK BKz1.out 6,cK BKz1.out 7⟩ (fun hHeld => ?_)
  clear hK K
  refine nZ 25 ?_
  refine pK 4 26 (bm 5 31) ?_
  refine done_ (by kernel_rfl) ?_
  try go_wp2
  go_ret
  exact⟨rE,(hX HB.out)⟩
 rw[if_neg nft] at H
 obtain rfl:=sI H
 refine oK 3 (some 25) (bm 5 15) (fun K hK => ?_)
 refine goesN Tryz.func14 #[.agg #[.slice Aoz7 t124.length coz7,.slice Aoz8 t127.length coz8,.slice Aoz9 t130.length coz9,.int .i64 t133,.slice Aoz10 t134.length coz10,.slice Aoz11 t137.length coz11,.slice Aoz12 t140.length coz12,.int .i64 t143],.agg #[.slice Aoz13 t146.length coz13,.slice Aoz14 t149.length coz14,.slice Aoz15 t152.length coz15,.int .i64 t155,.slice Aoz16 t156.length coz16,.slice Aoz17 t159.length coz17,.slice Aoz18 t162.length coz18,.int .i64 t165]] ?_
 refine(Xav.calls k _ _ t124 _ _ t127 _ _ t130 t133 _ _ t134 _ _ t137 _ _ t140 t143 _ _ t146 _ _ t149 _ _ t152 t155 _ _ t156 _ _ t159 _ _ t162 t165 false _ (rw2 (rD HOz7.out) (rL HOz7.out)) (rw2 (sD HOz8.out) (sL HOz8.out)) (rw2 (sD HOz9.out) (sL HOz9.out)) (rw2 (sD HOz10.out) (sL HOz10.out)) (rw2 (rD HOz11.out) (rL HOz11.out)) (rw2 (rD HOz12.out) (rL HOz12.out)) (rw2 (rD HOz13.out) (rL HOz13.out)) (rw2 (sD HOz14.out) (sL HOz14.out)) (rw2 (sD HOz15.out) (sL HOz15.out)) (rw2 (sD HOz16.out) (sL HOz16.out)) (rw2 (rD HOz17.out) (rL HOz17.out)) (rw2 (rD HOz18.out) (rL HOz18.out)) A37.out).mono ?_
 rintro e wz10 ⟨rfl,hb⟩
 refine⟨_,rfl,?_⟩
 replace HOz1:=aQ HOz1 hb
 replace HOz2:=aT HOz2 hb
 replace HOz3:=aT HOz3 hb
 replace HOz4:=aT HOz4 hb
 replace HOz5:=aQ HOz5 hb
 replace HOz6:=aQ HOz6 hb
 replace HOz7:=aQ HOz7 hb
 replace HOz8:=aT HOz8 hb
 replace HOz9:=aT HOz9 hb
 replace HOz10:=aT HOz10 hb
 replace HOz11:=aQ HOz11 hb
 replace HOz12:=aQ HOz12 hb
 replace HOz13:=aQ HOz13 hb
 replace HOz14:=aT HOz14 hb
 replace HOz15:=aT HOz15 hb
 replace HOz16:=aT HOz16 hb
 replace HOz17:=aQ HOz17 hb
 replace HOz18:=aQ HOz18 hb
 replace BKz1:=aB BKz1 hb
 replace BKz2:=aB BKz2 hb
 replace HB:=aS HB hb
 (try clear hb)
 refine hK.out _ _ ⟨cK BKz2.out 0,cK BKz2.out 1,cK BKz2.out 2,cK BKz2.out 3,cK BKz2.out 4,cK BKz2.out 5,cK BKz2.out 6,cK BKz2.out 7,cK BKz1.out 0,cK BKz1.out 1,cK BKz1.out 2,cK BKz1.out 3,cK BKz1.out 4,cK BKz1.out 5,cK BKz1.out 6,cK BKz1.out 7⟩ (fun hHeld => ?_)
 clear hK K
 refine nZ 25 ?_
 refine pK 4 26 (bm 5 31) ?_
 refine done_ (by kernel_rfl) ?_
 try go_wp2
 go_ret
 exact⟨rE,(hX HB.out)⟩
end Go.Proofs.YtmljebgideecjaaGreat.P2
namespace Go.Proofs.YtmljebgideecjaaGreat.P2
open Go.RowKit Go.Proofs.YtmljebgideecjaaGreatW.PrintWords Go.Proofs.YtmljebgideecjaaGreatW.PrintLast Go.Proofs.YtmljebgideecjaaGreatZ
def smM (w:List mW) (d:List mD) (t:List mT) (c:List mC) (o q:List Int):Prop :=
 w.length≤1048576∧d.length≤1048576∧smD d∧t.length≤1048576∧(∀ x ∈ t,smT x)∧c.length≤1048576∧o.length≤1048576∧q.length≤1048576
def machP (w:List mW) (d:List mD) (t:List mT) (tm:Int) (c:List mC) (o q:List Int) (s:Int):Prop :=
 memP w d∧d.length=t.length∧(0≤tm∧tm≤100000)∧okB q 0 s=true∧((∀ x ∈ c,callP t.length tm x)∧c.length≤40∧ordersP c o)∧∀ (i:Nat) x,t[i]? = some x→thrP t.length x∧tcP (i:Int) x c
theorem XbC (w:List mW) (d:List mD) (t:List mT) (tm:Int) (c:List mC) (o q:List Int) (s:Int) (h:smM w d t c o q):EvB (fun k=>Xf.f k w d t tm c o q s) (machP w d t tm c o q s):=by
 obtain⟨s1,s2,s3,s4,s5,s6,s7,s8⟩:=h
 have bad:Ev (fun k=>Xf.j0 k true w d t tm c o q s) false:=Ev.shift (by simp only[Xf.j0,if_true];exact Ev.now _)
 simp only[Xf.f,specIn_eq,Option.bind_some,decide_eq_true_eq]
 refine EvB.bind (Xb6 w d s1 s2 s3) (fun h1=>EvB.pos rfl ?_) (fun h1=>EvB.neg (by decide) (EvB.no bad (fun p=>h1 p.1)))
 refine EvB.ite (fun h2=>EvB.ite (fun h3 => ?_) (fun h3=>EvB.no bad (fun p=>h3 p.2.2.1))) (fun h2=>EvB.no bad (fun p=>h2 (by rw[p.2.1])))
 refine EvB.at (XbH q s s8) ?_
 refine EvB.ite (fun h4 => ?_) (fun h4=>EvB.no bad (fun p=>h4 p.2.2.2.1))
 refine EvB.bind (XbW w d t tm c o q s s4 s6 s7) (fun h5 => ?_) (fun h5=>EvB.no bad (fun p=>h5 p.2.2.2.2.1))
 refine EvB.shift ?_
 simp only[Bool.not_true,Xf.j0,Bool.false_eq_true,if_false]
 refine(EvB.each t (R:=fun i x=>thrP t.length x∧tcP (i:Int) x c) (Q:=True) (g:=fun i k=>Xf.l0 k (i:Int) w d t tm c o q s) (fun _ => ?_) (fun i x hx hi hp hn => ?_) (fun i x hx hi hp hr r g => ?_)).iff ⟨fun a=>⟨h1,by omega,h3,h4,h5,a.1⟩,fun a=>⟨a.2.2.2.2.2,trivial⟩⟩
 ·refine EvB.yes (Ev.shift ?_) trivial
  simp only[Xf.l0,Int.lt_irrefl,if_false]
  exact Ev.now _
 ·have c0:(0:Int)≤(i:Int):=by omega
  have c1:(i:Int)<(t.length:Int):=by omega
  have er:rd_T97 t (i:Int)=x:=getD_get hx
  refine Ev.shift ?_
  simp only[Xf.l0,c0,c1,if_true,er]
  refine EvB.then_ (XbJ t.length x (s5 x (List.mem_of_getElem? hx))) (fun g1=>Ev.pos rfl ?_) (fun g1=>Ev.neg (by decide) (Ev.now _))
  exact Ev.bind ((XbM w d t tm c o q s i x hx g1.1 s6).nval (fun a=>hn ⟨g1,a⟩)) (Ev.neg (by decide) (Ev.now _))
 ·have c0:(0:Int)≤(i:Int):=by omega
  have c1:(i:Int)<(t.length:Int):=by omega
  have er:rd_T97 t (i:Int)=x:=getD_get hx
  refine Ev.shift ?_
  simp only[Xf.l0,c0,c1,if_true,er,succ64 hi (by omega)]
  refine Ev.bind ((XbJ t.length x (s5 x (List.mem_of_getElem? hx))).val hr.1) (Ev.pos rfl ?_)
  exact Ev.bind ((XbM w d t tm c o q s i x hx hr.1.1 s6).val hr.2) (Ev.pos rfl g)
theorem when_eq (x:mC) (a tm:Int) (w:List mW) (d:List mD) (t:List mT) (c:List mC) (o q:List Int) (s:Int):EvB (fun _=>Xam.f x.f0 x.f1.f0 x.f1.f1 x.f1.f2 x.f2 x.f3 x.f4 x.f5.f0 x.f5.f1 a w d t tm c o q s) (a = -1 ∨ (x.f2≤a∧a≤tm)):=by
 simp only[Xam.f,implFrom_eq,Option.bind_some]
 refine EvB.ite (fun h=>EvB.yes (Ev.now _) (.inl h)) (fun h=>EvB.now ?_)
 rw[decide_eq_true_iff]
 exact⟨.inr,fun p=>p.elim (fun b=>absurd b h) id⟩
theorem Xb1 (w:List mW) (d:List mD) (t:List mT) (tm:Int) (c:List mC) (o q:List Int) (s:Int) (h:smM w d t c o q):EvB (fun k=>Xe.l1 k (t.length:Int) t (t.length:Int) 0 w d t tm c o q s) ((∀ (i:Nat) x,t[i]? = some x→thrP t.length x∧tcP (i:Int) x c)∧ordersP c o):=by
 obtain⟨s1,s2,s3,s4,s5,s6,s7,s8⟩:=h
 refine EvB.each t (R:=fun i x=>thrP t.length x∧tcP (i:Int) x c) (g:=fun i k=>Xe.l1 k (t.length:Int) t (t.length:Int) (i:Int) w d t tm c o q s) (fun _ => ?_) (fun i x hx hi hp hn => ?_) (fun i x hx hi hp hr r g => ?_)
 ·refine EvB.shift ?_
  simp only[Xe.l1,Int.lt_irrefl,if_false]
  exact EvB.bind (XbX w d t tm c o q s s7 s6) (fun a=>EvB.yes (Ev.now _) a) (fun a=>EvB.no (Ev.now _) a)
 ·have c0:(0:Int)≤(i:Int):=by omega
  have c1:(i:Int)<(t.length:Int):=by omega
  have er:rd_T97 t (i:Int)=x:=getD_get hx
  refine Ev.shift ?_
  simp only[Xe.l1,c0,c1,if_true,er]
  refine EvB.then_ (XbK t.length (by omega) x (s5 x (List.mem_of_getElem? hx))) (fun g1=>Ev.pos rfl ?_) (fun g1=>Ev.neg (by decide) (Ev.now _))
  exact Ev.bind ((XbN w d t tm c o q s i x hx g1.1 s6).nval (fun a=>hn ⟨g1,a⟩)) (Ev.neg (by decide) (Ev.now _))
 ·have c0:(0:Int)≤(i:Int):=by omega
  have c1:(i:Int)<(t.length:Int):=by omega
  have er:rd_T97 t (i:Int)=x:=getD_get hx
  refine Ev.shift ?_
  simp only[Xe.l1,c0,c1,if_true,er,succ64 hi (by omega)]
  refine Ev.bind ((XbK t.length (by omega) x (s5 x (List.mem_of_getElem? hx))).val hr.1) (Ev.pos rfl ?_)
  exact Ev.bind ((XbN w d t tm c o q s i x hx hr.1.1 s6).val hr.2) (Ev.pos rfl g)
theorem XbD (w:List mW) (d:List mD) (t:List mT) (tm:Int) (c:List mC) (o q:List Int) (s:Int) (h:smM w d t c o q):EvB (fun k=>Xe.f k w d t tm c o q s) (machP w d t tm c o q s):=by
 have h0:=h
 obtain⟨s1,s2,s3,s4,s5,s6,s7,s8⟩:=h
 have hww:wrap64 ((t.length:Int) - 1)=(t.length:Int) - 1:=w64 (by omega) (by omega)
 have bad:Ev (fun k=>Xe.j0 k (t.length:Int) true w d t tm c o q s) false:=Ev.shift (by simp only[Xe.j0,if_true];exact Ev.now _)
 simp only[Xe.f,implFrom_eq,Option.bind_some,decide_eq_true_eq]
 refine EvB.bind (Xb7 w d s1 s2 s3) (fun h1=>EvB.pos rfl ?_) (fun h1=>EvB.neg (by decide) (EvB.no bad (fun p=>h1 p.1)))
 refine EvB.ite (fun h2=>EvB.ite (fun h3 => ?_) (fun h3=>EvB.no bad (fun p=>h3 p.2.2.1))) (fun h2=>EvB.no bad (fun p=>h2 (by rw[p.2.1])))
 refine EvB.ite (fun h6=>EvB.no bad (fun p=>absurd p.2.2.2.2.1.2.1 (by omega))) (fun h6 => ?_)
 refine EvB.at (XbI q s s8) ?_
 cases h4:okB q 0 s
 ·exact EvB.no bad (fun p=>by rw[p.2.2.2.1] at h4;exact Bool.noConfusion h4)
 ·refine EvB.shift ?_
  simp only[Bool.not_true,Xe.j0,Bool.false_eq_true,if_false]
  refine(EvB.each c (R:=fun i x=>callP t.length tm x) (Q:=(∀ (i:Nat) x,t[i]? = some x→thrP t.length x∧tcP (i:Int) x c)∧ordersP c o) (g:=fun i k=>Xe.l0 k (t.length:Int) c (c.length:Int) (i:Int) w d t tm c o q s) (fun _ => ?_) (fun i x hx hi hp hn => ?_) (fun i x hx hi hp hr r g => ?_)).iff ?_
  ·refine EvB.shift ?_
   simp only[Xe.l0,Int.lt_irrefl,if_false]
   exact Xb1 w d t tm c o q s h0
  ·have c0:(0:Int)≤(i:Int):=by omega
   have c1:(i:Int)<(c.length:Int):=by omega
   have er:rd_T73 c (i:Int)=x:=getD_get hx
   refine Ev.shift ?_
   simp only[Xe.l0,c0,c1,if_true,er,implFrom_eq,Option.bind_some,decide_eq_true_eq,hww]
   by_cases g1:0≤x.f0∧x.f0≤(t.length:Int) - 1
   ·refine Ev.pos g1 (Ev.bind (XbA _ _ _) ?_)
    by_cases g2:opP x.f1
    ·refine Ev.pos g2 ?_
     by_cases g3:0≤x.f2∧x.f2≤tm
     ·refine Ev.pos g3 (EvB.then_ (when_eq x x.f3 tm w d t c o q s) (fun g4=>Ev.pos rfl ?_) (fun g4=>Ev.neg (by decide) (Ev.now _)))
      exact Ev.bind ((when_eq x x.f4 tm w d t c o q s).nval (fun g5=>hn ⟨g1,g2,g3,g4,g5⟩)) (Ev.neg (by decide) (Ev.now _))
     ·exact Ev.neg g3 (Ev.now _)
    ·exact Ev.neg g2 (Ev.now _)
   ·exact Ev.neg g1 (Ev.now _)
  ·have c0:(0:Int)≤(i:Int):=by omega
   have c1:(i:Int)<(c.length:Int):=by omega
   have er:rd_T73 c (i:Int)=x:=getD_get hx
   obtain⟨g1,g2,g3,g4,g5⟩:=hr
   refine Ev.shift ?_
   simp only[Xe.l0,c0,c1,if_true,er,implFrom_eq,Option.bind_some,decide_eq_true_eq,hww,succ64 hi (by omega)]
   exact Ev.pos g1 (Ev.bind (XbA _ _ _) (Ev.pos g2 (Ev.pos g3 (Ev.bind ((when_eq x x.f3 tm w d t c o q s).val g4) (Ev.pos rfl (Ev.bind ((when_eq x x.f4 tm w d t c o q s).val g5) (Ev.pos rfl g)))))))
  ·rw[each_mem]
   exact⟨fun a=>⟨h1,by omega,h3,h4,⟨a.1,by omega,a.2.2⟩,a.2.1⟩,fun a=>⟨a.2.2.2.2.1.1,a.2.2.2.2.2,a.2.2.2.2.1.2.2⟩⟩
end Go.Proofs.YtmljebgideecjaaGreat.P2
