/- A part of the proof of the law FnExactJudgeWords: texts of this seat, merged (words, printed functions of the program, plain lemmas). Conditions: none of its own. -/
import Derived.Test.YtmljebgideecjaaGreatP2kFnExactJudgeWords11
import Derived.Test.YtmljebgideecjaaGreatP2kFnExactJudgeWords12
set_option linter.unusedSimpArgs false
set_option linter.unusedVariables false
set_option maxHeartbeats 8000000
set_option maxRecDepth 100000
namespace Go.Proofs.YtmljebgideecjaaGreat.P2
open Go.Proofs.YtmljebgideecjaaGreatZ Go.RowKit Go.Proofs.YtmljebgideecjaaGreatW.PrintWords Go.Proofs.YtmljebgideecjaaGreatW.PrintLast Go.Proofs.YtmljebgideecjaaGreatW.PrintMore
attribute [local go_sem] max2_int min2_int max_two min_two max_three min_three max_four min_four   -- for this text's walks alone
def slices_Contains_int_int.f (k:Nat) (l0:List Int) (a1:Int):Option (Bool):=(slices_Index_int_int.f k l0 a1).bind fun t101=>(some (decide (t101 ≥ 0)))
theorem slices_Contains_int_int.calls (k:Nat) (A0:Option Addr) (c0:Nat) (l0:List Int) (a1:Int) (r:Bool) (w:World) (hr0:Kd.C (Kd.int .i64) w A0 l0.length l0) (hc0:l0.length≤c0) (H:slices_Contains_int_int.f k l0 a1=some r) :
  Calls Tryz.prog 175 #[.slice A0 l0.length c0,.int .i64 a1] w fun e w'=>e = .returned (.bool r)∧Drawn0 w w':=by
 have HR0:=aM hr0
 have HC0:=aM hc0
 clear hr0 hc0
 unfold slices_Contains_int_int.f at H
 replace H:=bE H;obtain⟨t101,A3,H⟩:=H
 obtain rfl:=sI H
 go_enter Tryz.func175,Tryz.ntmps175
 go_wp2_with (refine gD 209 7 Tryz.func209 (slices_Index_int_int.calls _ _ _ _ _ _ _ (cX HR0.out) HC0.out A3.out) ?_;intro nd)
 go_ret
 exact⟨by first | rfl | (simp;done) | (simp[*];done),dX⟩
def Xak.f (a0_0:Int) (a0_1:Int) (a0_2:Int) (a0_3:Int) (a0_4:Int) (a0_5:Int) (a0_6:Int) (a0_7:Int) (l0_8:List Int) (a1:Int) (l2_0:List (S140)) (l2_1:List (S162)) (l2_2:List (S97)) (a2_3:Int) (l2_4:List (S73)) (l2_5:List Int) (l2_6:List Int) (a2_7:Int):Option (Bool):=if a1=(-1) then (some true) else ((Xd.f a1 a0_4 a2_3).bind fun t102=>(some t102))
theorem Xak.calls (a0_0:Int) (a0_1:Int) (a0_2:Int) (a0_3:Int) (a0_4:Int) (a0_5:Int) (a0_6:Int) (a0_7:Int) (A0_8:Option Addr) (c0_8:Nat) (l0_8:List Int) (a1:Int) (gc2:Nat) (A2_0:Option Addr) (c2_0:Nat) (l2_0:List (S140)) (A2_1:Option Addr) (c2_1:Nat) (l2_1:List (S162)) (A2_2:Option Addr) (c2_2:Nat) (l2_2:List (S97)) (a2_3:Int) (A2_4:Option Addr) (c2_4:Nat) (l2_4:List (S73)) (A2_5:Option Addr) (c2_5:Nat) (l2_5:List Int) (A2_6:Option Addr) (c2_6:Nat) (l2_6:List Int) (a2_7:Int) (r:Bool) (w:World) (h0_8:Rw (Kd.int .i64) w A0_8 c0_8 l0_8) (h2_0:Rw k140 w A2_0 c2_0 l2_0) (h2_1:Rw k162 w A2_1 c2_1 l2_1) (h2_2:Rw k97 w A2_2 c2_2 l2_2) (h2_4:Rw k73 w A2_4 c2_4 l2_4) (h2_5:Rw (Kd.int .i64) w A2_5 c2_5 l2_5) (h2_6:Rw (Kd.int .i64) w A2_6 c2_6 l2_6) (hbc2:w.heap[gc2]? = some (.cells #[.slice A2_0 l2_0.length c2_0,.slice A2_1 l2_1.length c2_1,.slice A2_2 l2_2.length c2_2,.int .i64 a2_3,.slice A2_4 l2_4.length c2_4,.slice A2_5 l2_5.length c2_5,.slice A2_6 l2_6.length c2_6,.int .i64 a2_7] 43 (0,0))) (H:Xak.f a0_0 a0_1 a0_2 a0_3 a0_4 a0_5 a0_6 a0_7 l0_8 a1 l2_0 l2_1 l2_2 a2_3 l2_4 l2_5 l2_6 a2_7=some r) :
  Calls Tryz.prog 104 #[.agg #[.int .i64 a0_0,.int .i64 a0_1,.int .i64 a0_2,.int .i64 a0_3,.int .i64 a0_4,.int .i64 a0_5,.int .i64 a0_6,.int .i64 a0_7,.slice A0_8 l0_8.length c0_8],.int .i64 a1,.pointer (some ⟨gc2,0,none⟩)] w fun e w'=>e = .returned (.bool r)∧Below w.heap.size w w':=by
 have hu73:=Tryz.underlying73
 obtain⟨HR0_8,HC0_8⟩:=h0_8
 obtain⟨HR2_0,HC2_0⟩:=h2_0
 obtain⟨HR2_1,HC2_1⟩:=h2_1
 obtain⟨HR2_2,HC2_2⟩:=h2_2
 obtain⟨HR2_4,HC2_4⟩:=h2_4
 obtain⟨HR2_5,HC2_5⟩:=h2_5
 obtain⟨HR2_6,HC2_6⟩:=h2_6
 have BKz1:=aM hbc2
 clear hbc2
 have HB:=aM (Below.refl w.heap.size w)
 unfold Xak.f at H
 revert H;refine eP ?_ ?_<;>intro c4b0 c4b1 H
 ·obtain rfl:=sI H
  go_enter Tryz.func104,Tryz.ntmps104
  go_wp2_with (refine boxE 3 #[.int .i64 a0_0,.int .i64 a0_1,.int .i64 a0_2,.int .i64 a0_3,.int .i64 a0_4,.int .i64 a0_5,.int .i64 a0_6,.int .i64 a0_7,.slice A0_8 l0_8.length c0_8] 73 ?_;intro gbz1 hg wz1 hbox hb;have BKz2:=aM (hbox);have GWz1:=aG hg HB;have GEz1:=aG hg HB;have NBz1:=aL hg BKz1;have NBz2:=aR hg BKz1;replace BKz1:=aB BKz1 hb;replace HB:=aS HB hb;clear hb hbox hg)
  go_ret
  exact⟨rE,(hX HB.out)⟩
 replace H:=bE H;obtain⟨tz1,Az1,H⟩:=H
 obtain rfl:=sI H
 go_enter Tryz.func104,Tryz.ntmps104
 go_wp2_with (first | (refine boxE 3 #[.int .i64 a0_0,.int .i64 a0_1,.int .i64 a0_2,.int .i64 a0_3,.int .i64 a0_4,.int .i64 a0_5,.int .i64 a0_6,.int .i64 a0_7,.slice A0_8 l0_8.length c0_8] 73 ?_;intro gbz1 hg wz2 hbox hb;have BKz2:=aM (hbox);have GWz1:=aG hg HB;have GEz1:=aG hg HB;have NBz1:=aL hg BKz1;have NBz2:=aR hg BKz1;replace BKz1:=aB BKz1 hb;replace HB:=aS HB hb;clear hb hbox hg;have hnbz1:=nB NBz2 NBz1;have hczz1:=cZ9 BKz2.out;have hczz10:=cZ8 BKz1.out) | (go_at_call 102;(with_reducible refine(Xd.calls a1 a0_4 a2_3 tz1 _ Az1.out).mono ?_);rintro e w' ⟨rfl,⟨nd,rfl⟩⟩))
 go_ret
 exact⟨rE,(hX HB.out)⟩
def XaN.f (a0:Int):Option (Bool):=(Xd.f a0 0 3).bind fun t101=>(some t101)
theorem XaN.calls (a0:Int) (r:Bool) (w:World) (H:XaN.f a0=some r) :
  Calls Tryz.prog 176 #[.int .i64 a0] w fun e w'=>e = .returned (.bool r)∧Drawn0 w w':=by
 unfold XaN.f at H
 replace H:=bE H;obtain⟨t101,A2,H⟩:=H
 obtain rfl:=sI H
 go_enter Tryz.func176,Tryz.ntmps176
 go_wp2_with (refine gD 102 4 Tryz.func102 (Xd.calls _ _ _ _ _ A2.out) ?_;intro nd)
 go_ret
 exact⟨by first | rfl | (simp;done) | (simp[*];done),dX⟩
def XaC.f (a0:Int):Option (Bool):=(Xd.f a0 0 2).bind fun t101=>(some t101)
theorem XaC.calls (a0:Int) (r:Bool) (w:World) (H:XaC.f a0=some r) :
  Calls Tryz.prog 177 #[.int .i64 a0] w fun e w'=>e = .returned (.bool r)∧Drawn0 w w':=by
 unfold XaC.f at H
 replace H:=bE H;obtain⟨t101,A2,H⟩:=H
 obtain rfl:=sI H
 go_enter Tryz.func177,Tryz.ntmps177
 go_wp2_with (refine gD 102 4 Tryz.func102 (Xd.calls _ _ _ _ _ A2.out) ?_;intro nd)
 go_ret
 exact⟨by first | rfl | (simp;done) | (simp[*];done),dX⟩
def Xax.f (a0_0:Int) (a0_1:Int) (a0_2:Int) (a0_3:Int) (a1:Int):Option (Bool):=(Xd.f a0_0 0 (wrap64 (a1 - 1))).bind fun t102=>(if t102=true then ((Xd.f a0_1 1 1000000).bind fun t103=>(if t103=true then ((Xd.f a0_2 0 20).bind fun t104=>(if t104=true then ((Xd.f a0_3 0 20).bind fun t105=>(some (!t105))) else (some true))) else (some true))) else (some true))
theorem Xax.calls (a0_0:Int) (a0_1:Int) (a0_2:Int) (a0_3:Int) (gc1:Nat) (a1:Int) (r:Bool) (w:World) (hbc1:w.heap[gc1]? = some (.cells #[.int .i64 a1] 3 (0,0))) (H:Xax.f a0_0 a0_1 a0_2 a0_3 a1=some r) :
  Calls Tryz.prog 185 #[.agg #[.int .i64 a0_0,.int .i64 a0_1,.int .i64 a0_2,.int .i64 a0_3],.pointer (some ⟨gc1,0,none⟩)] w fun e w'=>e = .returned (.bool r)∧Below w.heap.size w w':=by
 have hu174:=Tryz.underlying174
 have BKz1:=aM hbc1
 clear hbc1
 have HB:=aM (Below.refl w.heap.size w)
 unfold Xax.f at H
 replace H:=bE H;obtain⟨tz1,Az1,H⟩:=H
 cases tz1
 case false =>
  rw[if_neg nft] at H
  obtain rfl:=sI H
  go_enter Tryz.func185,Tryz.ntmps185
  go_wp2_with (first | (refine boxE 2 #[.int .i64 a0_0,.int .i64 a0_1,.int .i64 a0_2,.int .i64 a0_3] 174 ?_;intro gbz1 hg wz4 hbox hb;have BKz2:=aM (hbox);have GWz1:=aG hg HB;have GEz1:=aG hg HB;have NBz1:=aL hg BKz1;have NBz2:=aR hg BKz1;replace BKz1:=aB BKz1 hb;replace HB:=aS HB hb;clear hb hbox hg;have hnbz4:=nB NBz2 NBz1;have hczz16:=cZ4 BKz2.out;have hczz20:=cZ1 BKz1.out) | (refine gD 102 8 Tryz.func102 (Xd.calls a0_0 0 (wrap64 (a1 - 1)) false _ Az1.out) ?_;intro nd))
  go_ret
  exact⟨rE,(hX HB.out)⟩
 rw[if_pos rfl] at H
 replace H:=bE H;obtain⟨tz2,Az2,H⟩:=H
 cases tz2
 case false =>
  rw[if_neg nft] at H
  obtain rfl:=sI H
  go_enter Tryz.func185,Tryz.ntmps185
  go_wp2_with (first | (refine boxE 2 #[.int .i64 a0_0,.int .i64 a0_1,.int .i64 a0_2,.int .i64 a0_3] 174 ?_;intro gbz1 hg wz3 hbox hb;have BKz2:=aM (hbox);have GWz1:=aG hg HB;have GEz1:=aG hg HB;have NBz1:=aL hg BKz1;have NBz2:=aR hg BKz1;replace BKz1:=aB BKz1 hb;replace HB:=aS HB hb;clear hb hbox hg;have hnbz3:=nB NBz2 NBz1;have hczz11:=cZ4 BKz2.out;have hczz15:=cZ1 BKz1.out) | (refine gD 102 8 Tryz.func102 (Xd.calls a0_0 0 (wrap64 (a1 - 1)) true _ Az1.out) ?_;intro nd) | (go_at_call 102;(with_reducible refine(Xd.calls a0_1 1 1000000 false _ Az2.out).mono ?_);rintro e w' ⟨rfl,⟨nd,rfl⟩⟩))
  go_ret
  exact⟨rE,(hX HB.out)⟩
 rw[if_pos rfl] at H
 replace H:=bE H;obtain⟨tz3,Az3,H⟩:=H
 cases tz3
 case false =>
  rw[if_neg nft] at H
  obtain rfl:=sI H
  go_enter Tryz.func185,Tryz.ntmps185
  go_wp2_with (first | (refine boxE 2 #[.int .i64 a0_0,.int .i64 a0_1,.int .i64 a0_2,.int .i64 a0_3] 174 ?_;intro gbz1 hg wz2 hbox hb;have BKz2:=aM (hbox);have GWz1:=aG hg HB;have GEz1:=aG hg HB;have NBz1:=aL hg BKz1;have NBz2:=aR hg BKz1;replace BKz1:=aB BKz1 hb;replace HB:=aS HB hb;clear hb hbox hg;have hnbz2:=nB NBz2 NBz1;have hczz6:=cZ4 BKz2.out;have hczz10:=cZ1 BKz1.out) | (refine gD 102 8 Tryz.func102 (Xd.calls a0_0 0 (wrap64 (a1 - 1)) true _ Az1.out) ?_;intro nd) | (go_at_call 102;(with_reducible refine(Xd.calls a0_1 1 1000000 true _ Az2.out).mono ?_);rintro e w' ⟨rfl,⟨nd,rfl⟩⟩) | (go_at_call 102;(with_reducible refine(Xd.calls a0_2 0 20 false _ Az3.out).mono ?_);rintro e w' ⟨rfl,⟨nd,rfl⟩⟩))
  go_ret
  exact⟨rE,(hX HB.out)⟩
 rw[if_pos rfl] at H
 replace H:=bE H;obtain⟨tz4,Az4,H⟩:=H
 obtain rfl:=sI H
 go_enter Tryz.func185,Tryz.ntmps185
 go_wp2_with (first | (refine boxE 2 #[.int .i64 a0_0,.int .i64 a0_1,.int .i64 a0_2,.int .i64 a0_3] 174 ?_;intro gbz1 hg wz1 hbox hb;have BKz2:=aM (hbox);have GWz1:=aG hg HB;have GEz1:=aG hg HB;have NBz1:=aL hg BKz1;have NBz2:=aR hg BKz1;replace BKz1:=aB BKz1 hb;replace HB:=aS HB hb;clear hb hbox hg;have hnbz1:=nB NBz2 NBz1;have hczz1:=cZ4 BKz2.out;have hczz5:=cZ1 BKz1.out) | (refine gD 102 8 Tryz.func102 (Xd.calls a0_0 0 (wrap64 (a1 - 1)) true _ Az1.out) ?_;intro nd) | (go_at_call 102;(with_reducible refine(Xd.calls a0_1 1 1000000 true _ Az2.out).mono ?_);rintro e w' ⟨rfl,⟨nd,rfl⟩⟩) | (go_at_call 102;(with_reducible refine(Xd.calls a0_2 0 20 true _ Az3.out).mono ?_);rintro e w' ⟨rfl,⟨nd,rfl⟩⟩) | (go_at_call 102;(with_reducible refine(Xd.calls a0_3 0 20 tz4 _ Az4.out).mono ?_);rintro e w' ⟨rfl,⟨nd,rfl⟩⟩))
 go_ret
 exact⟨rE,(hX HB.out)⟩
def Xad.f (k:Nat) (l0_0:List Int) (a0_1:Int) (a1:Int):Option (Int):=(slices_Index_int_int.f k l0_0 a1).bind fun t102=>(some t102)
theorem Xad.calls (k:Nat) (A0_0:Option Addr) (c0_0:Nat) (l0_0:List Int) (a0_1:Int) (a1:Int) (r:Int) (w:World) (h0_0:Rw (Kd.int .i64) w A0_0 c0_0 l0_0) (H:Xad.f k l0_0 a0_1 a1=some r) :
  Calls Tryz.prog 199 #[.agg #[.slice A0_0 l0_0.length c0_0,.int .i64 a0_1],.int .i64 a1] w fun e w'=>e = .returned (.int .i64 r)∧Below w.heap.size w w':=by
 have hu41:=Tryz.underlying41
 obtain⟨HR0_0,HC0_0⟩:=h0_0
 have HB:=aM (Below.refl w.heap.size w)
 unfold Xad.f at H
 replace H:=bE H;obtain⟨t102,A3,H⟩:=H
 obtain rfl:=sI H
 go_enter Tryz.func199,Tryz.ntmps199
 go_wp2_with (first | (refine boxE 2 #[.slice A0_0 l0_0.length c0_0,.int .i64 a0_1] 41 ?_;intro gbz1 hg wz1 hbox hb;have BKz1:=aM (hbox);have GWz1:=aG hg HB;replace HB:=aS HB hb;clear hb hbox hg;have hczz1:=cZ2 BKz1.out) | (refine gD 209 8 Tryz.func209 (slices_Index_int_int.calls _ _ _ _ _ _ _ (cC HR0_0.out HB.out) HC0_0.out A3.out) ?_;intro nd))
 go_ret
 exact⟨rE,(hX HB.out)⟩
def Xa3.f (k:Nat) (l0:List (S140)) (l1:List (S162)) (a2:Int):Option (Int):=(Xd.f a2 0 (wrap64 ((l0.length:Int) - 1))).bind fun t101=>(if t101=true then (if 0≤a2 then (if a2<(l0.length:Int) then (if ((rd_T140 l0 a2).f1)=0 then (some ((rd_T140 l0 a2).f0)) else ((Xd.f ((rd_T140 l0 a2).f1) 1 (l1.length:Int)).bind fun t104=>(if t104=true then (if 0≤(wrap64 (((rd_T140 l0 a2).f1) - 1)) then (if (wrap64 (((rd_T140 l0 a2).f1) - 1))<(l1.length:Int) then ((XU.f k ((rd_T162 l1 (wrap64 (((rd_T140 l0 a2).f1) - 1))).f0) ((rd_T162 l1 (wrap64 (((rd_T140 l0 a2).f1) - 1))).f1) ((rd_T162 l1 (wrap64 (((rd_T140 l0 a2).f1) - 1))).f2) ((rd_T162 l1 (wrap64 (((rd_T140 l0 a2).f1) - 1))).f3.f0) ((rd_T162 l1 (wrap64 (((rd_T140 l0 a2).f1) - 1))).f3.f1) a2).bind fun bt107=>(if ((rd_T162 l1 (wrap64 (((rd_T140 l0 a2).f1) - 1))).f0)=((rd_T140 l0 a2).f2) then (if ((rd_T162 l1 (wrap64 (((rd_T140 l0 a2).f1) - 1))).f1)=2 then (some bt107.2.2.1) else (some bt107.2.1)) else (some bt107.2.1))) else (none)) else (none)) else (some 0)))) else (none)) else (none)) else (some 0))
theorem Xa3.calls (k:Nat) (A0:Option Addr) (c0:Nat) (l0:List (S140)) (A1:Option Addr) (c1:Nat) (l1:List (S162)) (a2:Int) (r:Int) (w:World) (h0:Rw k140 w A0 c0 l0) (h1:Rw k162 w A1 c1 l1) (H:Xa3.f k l0 l1 a2=some r) :
  Calls Tryz.prog 123 #[.slice A0 l0.length c0,.slice A1 l1.length c1,.int .i64 a2] w fun e w'=>e = .returned (.int .i64 r)∧Below w.heap.size w w':=by
 have hu140:=Tryz.underlying140
 have hu162:=Tryz.underlying162
 have hu165:=Tryz.underlying165
 obtain⟨HR0,HC0⟩:=h0
 obtain⟨HR1,HC1⟩:=h1
 have HB:=aM (Below.refl w.heap.size w)
 unfold Xa3.f at H
 replace H:=bE H;obtain⟨t101,A4,H⟩:=H
 go_enter Tryz.func123,Tryz.ntmps123
 cases t101
 case false =>
  rw[if_neg nft] at H
  obtain rfl:=sI H
  go_wp2_with (refine gD 102 15 Tryz.func102 (Xd.calls _ _ _ _ _ A4.out) ?_;intro nd)
  go_ret
  exact⟨rE,(hX HB.out)⟩
 rw[if_pos rfl] at H
 replace H:=ifQ H;obtain⟨c6b0,H⟩:=H
 replace H:=ifQ H;obtain⟨c7b0,H⟩:=H
 go_wp2_with (first | (refine gD 102 15 Tryz.func102 (Xd.calls _ _ _ _ _ A4.out) ?_;intro nd;have pz1:0≤(a2:Int):=odA;have qz1:a2<(l0.length:Int):=odA;obtain⟨adz1,ez1,hxz1,hxz2,hxz3⟩:=at_T140 HR0.out a2 pz1 qz1;cases ez1;replace pz1:=eq_true pz1;replace qz1:=eq_true qz1) | (refine boxE 7 #[.int .i64 0,.int .i64 0,.int .i64 0] 140 ?_;intro gbz1 hg wz1 hbox hb;have BKz1:=aM (hbox);have GWz1:=aG hg HB;replace HB:=aS HB hb;clear hb hbox hg;have hczz1:=cZ3 BKz1.out;refine Stop.out ?_))
 refine⟨?_⟩
 revert H;refine eP ?_ ?_<;>intro c8b0 c8b1 H
 ·obtain rfl:=sI H
  exact fS
 replace H:=bE H;obtain⟨t104,A11,H⟩:=H
 cases t104
 case false =>
  rw[if_neg nft] at H
  obtain rfl:=sI H
  go_wp2_with (refine gD 102 30 Tryz.func102 (Xd.calls _ _ _ _ _ A11.out) ?_;intro nd)
  go_ret
  exact⟨rE,(hX HB.out)⟩
 rw[if_pos rfl] at H
 obtain⟨ji13,hji13⟩:∃ j_:Int,(wrap64 (((rd_T140 l0 a2).f1) - 1))=j_:=⟨_,rfl⟩
 replace H:(if 0≤(ji13) then (if (ji13)<(l1.length:Int) then ((XU.f k ((rd_T162 l1 (ji13)).f0) ((rd_T162 l1 (ji13)).f1) ((rd_T162 l1 (ji13)).f2) ((rd_T162 l1 (ji13)).f3.f0) ((rd_T162 l1 (ji13)).f3.f1) a2).bind fun bt107=>(if ((rd_T162 l1 (ji13)).f0)=((rd_T140 l0 a2).f2) then (if ((rd_T162 l1 (ji13)).f1)=2 then (some bt107.2.2.1) else (some bt107.2.1)) else (some bt107.2.1))) else (none)) else (none))=some r:=by first | (rw[hji13] at H;exact H) | (simp only[hji13] at H ⊢;exact H)
 (try rw[hji13] at A4)
 (try rw[hji13] at A11)
 have hji13w:(IntKind.i64.wrap (((rd_T140 l0 a2).f1) - 1))=ji13:=(i64_w _).trans hji13
 replace H:=ifQ H;obtain⟨c14b0,H⟩:=H
 replace H:=ifQ H;obtain⟨c15b0,H⟩:=H
 replace H:=bE H;obtain⟨⟨t107,t108,t109,t110⟩,A16,H⟩:=H
 try dsimp only at H
 go_wp2_with (first | (refine gD 102 30 Tryz.func102 (Xd.calls _ _ _ _ _ A11.out) ?_;intro nd;have pz2:0≤((ji13):Int):=odA;have qz2:(ji13)<(l1.length:Int):=odA;obtain⟨adz2,Az1,cz1,Az2,cz2,ez2,hxz4,hxz5,hxz6,hxz7,hxz8,hlz1,hiz1,hlz2,hiz2⟩:=at_T162 HR1.out (ji13) pz2 qz2;cases ez2;have hnz1:adz2.block ≠ gbz1:=Nat.ne_of_lt (Nat.lt_of_lt_of_le (by have:=World.block_lt_of_cell? _ _ hxz4;first | rwa [add_block] at this | exact this) GWz1.out);have hnz2:adz2.block ≠ gbz1:=Nat.ne_of_lt (Nat.lt_of_lt_of_le (by have:=World.block_lt_of_cell? _ _ hxz4;first | rwa [add_block] at this | exact this) GWz1.out);have hnz3:adz2.block ≠ gbz1:=Nat.ne_of_lt (Nat.lt_of_lt_of_le (by have:=World.block_lt_of_cell? _ _ hxz4;first | rwa [add_block] at this | exact this) GWz1.out);replace hxz4:=bc HB.out hxz4;replace hxz5:=bc HB.out hxz5;replace hxz6:=bc HB.out hxz6;replace hxz7:=bc HB.out hxz7;replace hxz8:=bc HB.out hxz8;have HRz1:=aM hiz1;have HCz1:=aM hlz1;clear hiz1 hlz1;have HRz2:=aM hiz2;have HCz2:=aM hlz2;clear hiz2 hlz2;replace hxz4:=(cell_far (p:=⟨gbz1,0,none⟩) (by first | (rw[add_block];exact hnz1) | (show (Addr.add _ _).block ≠ _;rw[add_block];exact hnz1) | exact hnz1) (.int .i64 ((rd_T140 l0 a2).f0))).trans hxz4;replace hxz5:=(cell_far (p:=⟨gbz1,0,none⟩) (by first | (rw[add_block];exact hnz1) | (show (Addr.add _ _).block ≠ _;rw[add_block];exact hnz1) | exact hnz1) (.int .i64 ((rd_T140 l0 a2).f0))).trans hxz5;replace hxz6:=(cell_far (p:=⟨gbz1,0,none⟩) (by first | (rw[add_block];exact hnz1) | (show (Addr.add _ _).block ≠ _;rw[add_block];exact hnz1) | exact hnz1) (.int .i64 ((rd_T140 l0 a2).f0))).trans hxz6;replace hxz7:=(cell_far (p:=⟨gbz1,0,none⟩) (by first | (rw[add_block];exact hnz1) | (show (Addr.add _ _).block ≠ _;rw[add_block];exact hnz1) | exact hnz1) (.int .i64 ((rd_T140 l0 a2).f0))).trans hxz7;replace hxz8:=(cell_far (p:=⟨gbz1,0,none⟩) (by first | (rw[add_block];exact hnz1) | (show (Addr.add _ _).block ≠ _;rw[add_block];exact hnz1) | exact hnz1) (.int .i64 ((rd_T140 l0 a2).f0))).trans hxz8;replace hxz4:=(cell_far (p:=⟨gbz1,1,none⟩) (by first | (rw[add_block];exact hnz2) | (show (Addr.add _ _).block ≠ _;rw[add_block];exact hnz2) | exact hnz2) (.int .i64 ((rd_T140 l0 a2).f1))).trans hxz4;replace hxz5:=(cell_far (p:=⟨gbz1,1,none⟩) (by first | (rw[add_block];exact hnz2) | (show (Addr.add _ _).block ≠ _;rw[add_block];exact hnz2) | exact hnz2) (.int .i64 ((rd_T140 l0 a2).f1))).trans hxz5;replace hxz6:=(cell_far (p:=⟨gbz1,1,none⟩) (by first | (rw[add_block];exact hnz2) | (show (Addr.add _ _).block ≠ _;rw[add_block];exact hnz2) | exact hnz2) (.int .i64 ((rd_T140 l0 a2).f1))).trans hxz6;replace hxz7:=(cell_far (p:=⟨gbz1,1,none⟩) (by first | (rw[add_block];exact hnz2) | (show (Addr.add _ _).block ≠ _;rw[add_block];exact hnz2) | exact hnz2) (.int .i64 ((rd_T140 l0 a2).f1))).trans hxz7;replace hxz8:=(cell_far (p:=⟨gbz1,1,none⟩) (by first | (rw[add_block];exact hnz2) | (show (Addr.add _ _).block ≠ _;rw[add_block];exact hnz2) | exact hnz2) (.int .i64 ((rd_T140 l0 a2).f1))).trans hxz8;replace hxz4:=(cell_far (p:=⟨gbz1,2,none⟩) (by first | (rw[add_block];exact hnz3) | (show (Addr.add _ _).block ≠ _;rw[add_block];exact hnz3) | exact hnz3) (.int .i64 ((rd_T140 l0 a2).f2))).trans hxz4;replace hxz5:=(cell_far (p:=⟨gbz1,2,none⟩) (by first | (rw[add_block];exact hnz3) | (show (Addr.add _ _).block ≠ _;rw[add_block];exact hnz3) | exact hnz3) (.int .i64 ((rd_T140 l0 a2).f2))).trans hxz5;replace hxz6:=(cell_far (p:=⟨gbz1,2,none⟩) (by first | (rw[add_block];exact hnz3) | (show (Addr.add _ _).block ≠ _;rw[add_block];exact hnz3) | exact hnz3) (.int .i64 ((rd_T140 l0 a2).f2))).trans hxz6;replace hxz7:=(cell_far (p:=⟨gbz1,2,none⟩) (by first | (rw[add_block];exact hnz3) | (show (Addr.add _ _).block ≠ _;rw[add_block];exact hnz3) | exact hnz3) (.int .i64 ((rd_T140 l0 a2).f2))).trans hxz7;replace hxz8:=(cell_far (p:=⟨gbz1,2,none⟩) (by first | (rw[add_block];exact hnz3) | (show (Addr.add _ _).block ≠ _;rw[add_block];exact hnz3) | exact hnz3) (.int .i64 ((rd_T140 l0 a2).f2))).trans hxz8;clear hnz1;clear hnz2;clear hnz3;replace pz2:=eq_true pz2;replace qz2:=eq_true qz2) | (refine boxE 8 #[.int .i64 0,.int .i64 0,.slice none 0 0,.int .i64 0,.slice none 0 0] 162 ?_;intro gbz2 hg wz2 hbox hb;have BKz2:=aM (hbox);have GWz2:=aG hg HB;have NBz1:=aM (gL hg (bP BKz1.out));have NBz2:=aM (gG hg (bP BKz1.out));replace BKz1:=aM (blk_below (g:=gbz1) (o:=.cells #[.int .i64 ((rd_T140 l0 a2).f0),.int .i64 ((rd_T140 l0 a2).f1),.int .i64 ((rd_T140 l0 a2).f2)] 140 (0,0)) (bP BKz1.out) hb);replace HB:=aS HB hb;clear hb hbox hg;have hnbz1:=nB NBz2 NBz1;have hczz4:=cZ5 BKz2.out) | ((with_reducible refine gate_callee (f:=173) rfl ?_);refine goesL_ (some 41) rfl rfl Tryz.func173 (by kernel_rfl) rfl #[.agg #[.int .i64 ((rd_T162 l1 (ji13)).f0),.int .i64 ((rd_T162 l1 (ji13)).f1),.slice Az1 ((rd_T162 l1 (ji13)).f2).length cz1,.int .i64 ((rd_T162 l1 (ji13)).f3.f0),.slice Az2 ((rd_T162 l1 (ji13)).f3.f1).length cz2],.int .i64 a2] rfl (by (try simp only[List.map_toArray,List.map_cons,List.map_nil]);first | done | (simp only[hji13];rfl) | rfl | (simp only[List.length_drop,List.length_take];rfl)) ?_;(with_reducible refine(XU.calls k ((rd_T162 l1 (ji13)).f0) ((rd_T162 l1 (ji13)).f1) _ _ ((rd_T162 l1 (ji13)).f2) ((rd_T162 l1 (ji13)).f3.f0) _ _ ((rd_T162 l1 (ji13)).f3.f1) a2 t107 t108 t109 t110 _ (rW HRz1 HB HCz1) (rW HRz2 HB HCz2) A16.out).mono ?_);rintro e wz3 ⟨rfl,hb⟩;refine⟨_,rfl,?_⟩;replace BKz1:=aF BKz1 hb;replace BKz2:=aM (blk_below (g:=gbz2) (o:=.cells #[.int .i64 ((rd_T162 l1 (ji13)).f0),.int .i64 ((rd_T162 l1 (ji13)).f1),.slice Az1 ((rd_T162 l1 (ji13)).f2).length cz1,.int .i64 ((rd_T162 l1 (ji13)).f3.f0),.slice Az2 ((rd_T162 l1 (ji13)).f3.f1).length cz2] 162 (0,0)) (bP BKz2.out) hb);replace HB:=aS HB hb;clear hb) | (refine boxE 9 #[.int .i64 0,.int .i64 0,.int .i64 0] 165 ?_;intro gbz3 hg wz4 hbox hb;have BKz3:=aM (hbox);have GWz3:=aG hg HB;have NBz3:=aL hg BKz1;have NBz4:=aR hg BKz1;have NBz5:=aM ((by rw[hg];exact Nat.ne_of_lt (blk_lt (g:=gbz2) (o:=.cells #[.int .i64 ((rd_T162 l1 (ji13)).f0),.int .i64 ((rd_T162 l1 (ji13)).f1),.slice Az1 ((rd_T162 l1 (ji13)).f2).length cz1,.int .i64 ((rd_T162 l1 (ji13)).f3.f0),.slice Az2 ((rd_T162 l1 (ji13)).f3.f1).length cz2] 162 (0,0)) (bX BKz2.out)):gbz2 ≠ gbz3));have NBz6:=aM ((by rw[hg];exact Nat.ne_of_gt (blk_lt (g:=gbz2) (o:=.cells #[.int .i64 ((rd_T162 l1 (ji13)).f0),.int .i64 ((rd_T162 l1 (ji13)).f1),.slice Az1 ((rd_T162 l1 (ji13)).f2).length cz1,.int .i64 ((rd_T162 l1 (ji13)).f3.f0),.slice Az2 ((rd_T162 l1 (ji13)).f3.f1).length cz2] 162 (0,0)) (bX BKz2.out)):gbz3 ≠ gbz2));replace BKz1:=aB BKz1 hb;replace BKz2:=aM (blk_below (g:=gbz2) (o:=.cells #[.int .i64 ((rd_T162 l1 (ji13)).f0),.int .i64 ((rd_T162 l1 (ji13)).f1),.slice Az1 ((rd_T162 l1 (ji13)).f2).length cz1,.int .i64 ((rd_T162 l1 (ji13)).f3.f0),.slice Az2 ((rd_T162 l1 (ji13)).f3.f1).length cz2] 162 (0,0)) (bX BKz2.out) hb);replace HB:=aS HB hb;clear hb hbox hg;have hnbz2:=nB NBz4 NBz3;have hnbz3:=nB NBz6 NBz5;have hczz9:=cZ3 BKz3.out;have hczz12:=cZ5 BKz2.out;have hczz17:=cZ3 BKz1.out;refine Stop.out ?_))
 refine⟨?_⟩
 revert H;refine eN ?_ ?_<;>intro c17b0 c17b1 H
 ·obtain rfl:=sI H
  go_wp2
  go_ret
  exact⟨by first | rfl | (simp[errW_none,errW_some]<;>rfl) | (simp only[← hji13];first | rfl | (simp[errW_none,errW_some]<;>rfl)) | (simp[*,errW_none,errW_some]<;>rfl),(hX HB.out)⟩
 revert H;refine eN ?_ ?_<;>intro c18b0 c18b1 H
 ·obtain rfl:=sI H
  go_wp2
  go_ret
  exact⟨by first | rfl | (simp[errW_none,errW_some]<;>rfl) | (simp only[← hji13];first | rfl | (simp[errW_none,errW_some]<;>rfl)) | (simp[*,errW_none,errW_some]<;>rfl),(hX HB.out)⟩
 obtain rfl:=sI H
 go_wp2
 go_ret
 exact⟨by first | rfl | (simp[errW_none,errW_some]<;>rfl) | (simp only[← hji13];first | rfl | (simp[errW_none,errW_some]<;>rfl)) | (simp[*,errW_none,errW_some]<;>rfl),(hX HB.out)⟩
end Go.Proofs.YtmljebgideecjaaGreat.P2
namespace Go.Proofs.YtmljebgideecjaaGreat.P2
open Go.RowKit Go.Proofs.YtmljebgideecjaaGreatW.PrintWords Go.Proofs.YtmljebgideecjaaGreatW.PrintLast Go.Proofs.YtmljebgideecjaaGreatZ
theorem toIntS_ev (l:List Int) (hl:l.length≤1048576):Ev (fun k=>XX.f k l) l:=by
 have c1:(0:Int)≤(l.length:Int):=by omega
 have c2:l.length≤35184372088832:=by omega
 simp only[XX.f,c1,c2,if_true,Int.toNat_natCast]
 have h:=fill_ev l id (0:Int) (g:=fun k s i=>XX.l0 k l s i) ?_ ?_
 ·rw[List.map_id] at h
  exact h
 ·intro s hs
  refine Ev.shift ?_
  simp only[XX.l0,Int.lt_irrefl,if_false]
  exact Ev.now _
 ·intro s i x r hx hs hi h
  refine Ev.shift ?_
  have d1:(i:Int)<(l.length:Int):=by omega
  have d2:(0:Int)≤(i:Int):=by omega
  have d3:(i:Int)<(s.length:Int):=by omega
  simp only[XX.l0,d1,d2,d3,if_true,rd_get hx,Int.toNat_natCast,succ64 hi (by omega)]
  exact h
theorem eqIntS_ev (l:List Int) (hl:l.length≤9223372036854775807):Ev (fun k=>XT.f k l l) true:=by
 simp only[XT.f,if_true]
 refine look_ev l true (g:=fun k i=>XT.l0 k l l i) ?_ ?_
 ·refine Ev.shift ?_
  simp only[XT.l0,Int.lt_irrefl,if_false]
  exact Ev.now _
 ·intro i x hx hi h
  refine Ev.shift ?_
  have d1:(i:Int)<(l.length:Int):=by omega
  have d2:(0:Int)≤(i:Int):=by omega
  simp only[XT.l0,d1,d2,if_true,succ64 hi hl]
  exact h
theorem szIntS_eq (l:List Int) (t:Int) (h0:0≤t) (h1:t≤1048576) (hl:l.length≤9223372036854775807):Xao.f l t=some (lf (l.length:Int) t):=by
 have e:wrap64 (t - (l.length:Int))=t - l.length:=w64 (by omega) (by omega)
 unfold Xao.f lf
 rw[e]
 by_cases h:(l.length:Int)≤t
 ·rw[if_neg (by omega),if_pos h]
 ·rw[if_pos (by omega),if_neg h]
theorem rdI_w {l:List Int} {i:Nat} (h:i<l.length):rd l (i:Int)=l[i]:=rd_get (List.getElem?_eq_getElem h)
theorem drop_eq_iff {x y:List Int} {i:Nat} (hx:i<x.length) (hy:i<y.length):x.drop i=y.drop i ↔ (rd x (i:Int)=rd y (i:Int)∧x.drop (i+1)=y.drop (i+1)):=by
 rw[List.drop_eq_getElem_cons hx,List.drop_eq_getElem_cons hy,rdI_w hx,rdI_w hy]
 exact List.cons_eq_cons
theorem equal_ev (x y:List Int) (hx:x.length≤9223372036854775807):Ev (fun k=>slices_Equal_int_int.f k x y) (decide (x=y)):=by
 simp only[slices_Equal_int_int.f]
 by_cases h:(x.length:Int)=(y.length:Int)
 ·have hl:x.length=y.length:=by omega
  refine Ev.pos h ?_
  have key:∀ i:Nat,i≤x.length→∃ r:Bool,(r=true ↔ x.drop i=y.drop i)∧Ev (fun k=>slices_Equal_int_int.l0 k x y (x.length:Int) (i:Int)) r:=by
   refine back ?_ fun i hi ih => ?_
   ·refine⟨true,?_,Ev.shift ?_⟩
    ·rw[List.drop_length,List.drop_eq_nil_of_le (by omega)];simp
    ·simp only[slices_Equal_int_int.l0,Int.lt_irrefl,if_false]
     exact Ev.now _
   ·obtain⟨r,h1,h2⟩:=ih
    have c0:(0:Int)≤(i:Int):=by omega
    have c1:(i:Int)<(x.length:Int):=by omega
    have c2:(i:Int)<(y.length:Int):=by omega
    have hd:=drop_eq_iff (x:=x) (y:=y) hi (by omega)
    by_cases he:rd x (i:Int)=rd y (i:Int)
    ·refine⟨r,by rw[h1,hd];exact⟨fun a=>⟨he,a⟩,fun a=>a.2⟩,Ev.shift ?_⟩
     simp only[slices_Equal_int_int.l0,c0,c1,c2,if_true,succ64 hi hx]
     exact Ev.pos he h2
    ·refine⟨false,by rw[hd];exact⟨fun a=>Bool.noConfusion a,fun a=>absurd a.1 he⟩,Ev.shift ?_⟩
     simp only[slices_Equal_int_int.l0,c0,c1,c2,if_true]
     exact Ev.neg he (Ev.now _)
  obtain⟨r,h1,h2⟩:=key 0 (Nat.zero_le _)
  refine h2.to ?_
  rw[List.drop_zero,List.drop_zero] at h1
  rw[Bool.eq_iff_iff,h1,decide_eq_true_iff]
 ·refine Ev.neg h (Ev.val ?_)
  rw[eq_comm,decide_eq_false_iff_not]
  intro e
  rw[e] at h
  exact h rfl
theorem ints_ev (x y:List Int) (hx:x.length≤1048576) (hy:y.length≤1048576):Ev (fun k=>Xu.f k x y) (decide (x=y)):=by
 simp only[Xu.f]
 have key:∀ i:Nat,i≤x.length→i≤y.length→∃ r:Bool,(r=true ↔ x.drop i=y.drop i)∧Ev (fun k=>Xu.l0 k x y (i:Int)) r:=by
  refine back ?_ fun i hi ih => ?_
  ·intro hy2
   refine⟨((x.length:Int) == (y.length:Int)),?_,Ev.shift ?_⟩
   ·rw[List.drop_length,beq_iff_eq]
    constructor
    ·intro e;exact(List.drop_eq_nil_of_le (by omega)).symm
    ·intro e
     have e2:(y.drop x.length).length=0:=by rw[← e];rfl
     rw[List.length_drop] at e2
     omega
   ·simp only[Xu.l0,Int.lt_irrefl,if_false]
    refine Ev.shift ?_
    simp only[Xu.j1,Bool.false_eq_true,if_false]
    exact Ev.now _
  ·intro hy2
   have c0:(0:Int)≤(i:Int):=by omega
   have c1:(i:Int)<(x.length:Int):=by omega
   by_cases hyi:i<y.length
   ·have c2:(i:Int)<(y.length:Int):=by omega
    obtain⟨r,h1,h2⟩:=ih (by omega)
    have hd:=drop_eq_iff (x:=x) (y:=y) hi hyi
    by_cases he:rd x (i:Int)=rd y (i:Int)
    ·refine⟨r,by rw[h1,hd];exact⟨fun a=>⟨he,a⟩,fun a=>a.2⟩,Ev.shift ?_⟩
     simp only[Xu.l0,c1,c2,decide_true,if_true]
     refine Ev.shift ?_
     simp only[Xu.j1,c0,c1,c2,if_true,succ64 hi (by omega)]
     exact Ev.pos he h2
    ·refine⟨false,by rw[hd];exact⟨fun a=>Bool.noConfusion a,fun a=>absurd a.1 he⟩,Ev.shift ?_⟩
     simp only[Xu.l0,c1,c2,decide_true,if_true]
     refine Ev.shift ?_
     simp only[Xu.j1,c0,c1,c2,if_true]
     exact Ev.neg he (Ev.now _)
   ·have c2:¬ (i:Int)<(y.length:Int):=by omega
    refine⟨((x.length:Int) == (y.length:Int)),?_,Ev.shift ?_⟩
    ·rw[beq_iff_eq]
     constructor
     ·intro e;omega
     ·intro e
      have e2:(x.drop i).length=(y.drop i).length:=by rw[e]
      rw[List.length_drop,List.length_drop] at e2
      omega
    ·simp only[Xu.l0,c1,c2,decide_false,if_true]
     refine Ev.shift ?_
     simp only[Xu.j1,Bool.false_eq_true,if_false]
     exact Ev.now _
 obtain⟨r,h1,h2⟩:=key 0 (Nat.zero_le _) (Nat.zero_le _)
 refine h2.to ?_
 rw[List.drop_zero,List.drop_zero] at h1
 rw[Bool.eq_iff_iff,h1,decide_eq_true_iff]
end Go.Proofs.YtmljebgideecjaaGreat.P2
