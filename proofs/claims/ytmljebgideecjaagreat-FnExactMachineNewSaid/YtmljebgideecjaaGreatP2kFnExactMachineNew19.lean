/- A part of the proof of the law FnExactMachineNew: texts of this seat, merged (words, printed functions of the program, plain lemmas). Conditions: none of its own. -/
import Derived.Test.YtmljebgideecjaaGreatP2kFnExactMachineNew13
set_option linter.unusedSimpArgs false
set_option linter.unusedVariables false
set_option maxHeartbeats 8000000
set_option maxRecDepth 100000
namespace Go.Proofs.YtmljebgideecjaaGreat.P2
open Go.Proofs.YtmljebgideecjaaGreatZ Go.RowKit Go.Proofs.YtmljebgideecjaaGreatW.PrintWords Go.Proofs.YtmljebgideecjaaGreatW.PrintLast Go.Proofs.YtmljebgideecjaaGreatW.PrintMore
attribute [local go_sem] max2_int min2_int max_two min_two max_three min_three max_four min_four   -- for this text's walks alone
def XaR.f (k:Nat) (a0_0:Int) (a0_1:Int) (l0_2:List (S165)) (a0_3:Int) (l0_4:List Int) (a1_0:Int) (a1_1:Int) (l1_2:List (S165)) (a1_3:Int) (l1_4:List Int):Option (Bool):=if a0_0=a1_0 then (if a0_1=a1_1 then ((Xq.f k l0_2 l1_2).bind fun t103=>(if t103=true then ((XaE.f k a0_3 l0_4 a1_3 l1_4).bind fun t104=>(if t104=true then (some true) else (some false))) else (some false))) else (some false)) else (some false)
theorem XaR.calls (k:Nat) (a0_0:Int) (a0_1:Int) (A0_2:Option Addr) (c0_2:Nat) (l0_2:List (S165)) (a0_3:Int) (A0_4:Option Addr) (c0_4:Nat) (l0_4:List Int) (a1_0:Int) (a1_1:Int) (A1_2:Option Addr) (c1_2:Nat) (l1_2:List (S165)) (a1_3:Int) (A1_4:Option Addr) (c1_4:Nat) (l1_4:List Int) (r:Bool) (w:World) (h0_2:Rw k165 w A0_2 c0_2 l0_2) (h0_4:Rw (Kd.int .i64) w A0_4 c0_4 l0_4) (h1_2:Rw k165 w A1_2 c1_2 l1_2) (h1_4:Rw (Kd.int .i64) w A1_4 c1_4 l1_4) (H:XaR.f k a0_0 a0_1 l0_2 a0_3 l0_4 a1_0 a1_1 l1_2 a1_3 l1_4=some r) :
  Calls Tryz.prog 187 #[.agg #[.int .i64 a0_0,.int .i64 a0_1,.slice A0_2 l0_2.length c0_2,.int .i64 a0_3,.slice A0_4 l0_4.length c0_4],.agg #[.int .i64 a1_0,.int .i64 a1_1,.slice A1_2 l1_2.length c1_2,.int .i64 a1_3,.slice A1_4 l1_4.length c1_4]] w fun e w'=>e = .returned (.bool r)∧Below w.heap.size w w':=by
 have hu162:=Tryz.underlying162
 have hu71:=Tryz.underlying71
 obtain⟨HR0_2,HC0_2⟩:=h0_2
 obtain⟨HR0_4,HC0_4⟩:=h0_4
 obtain⟨HR1_2,HC1_2⟩:=h1_2
 obtain⟨HR1_4,HC1_4⟩:=h1_4
 have HB:=aM (Below.refl w.heap.size w)
 unfold XaR.f at H
 go_enter Tryz.func187,Tryz.ntmps187
 go_wp2_with (first | (refine boxE 2 #[.int .i64 a0_0,.int .i64 a0_1,.slice A0_2 l0_2.length c0_2,.int .i64 a0_3,.slice A0_4 l0_4.length c0_4] 162 ?_;intro gbz1 hg wz1 hbox hb;have BKz1:=aM (hbox);have GWz1:=aG hg HB;replace HB:=aS HB hb;clear hb hbox hg) | (refine boxE 3 #[.int .i64 a1_0,.int .i64 a1_1,.slice A1_2 l1_2.length c1_2,.int .i64 a1_3,.slice A1_4 l1_4.length c1_4] 162 ?_;intro gbz2 hg wz2 hbox hb;have BKz2:=aM (hbox);have GWz2:=aG hg HB;have NBz1:=aL hg BKz1;have NBz2:=aR hg BKz1;replace BKz1:=aB BKz1 hb;replace HB:=aS HB hb;clear hb hbox hg;have hnbz1:=nB NBz1 NBz2;have hczz1:=cZ5 BKz1.out;have hczz6:=cZ5 BKz2.out;refine Stop.out ?_))
 refine⟨?_⟩
 revert H;refine eN ?_ ?_<;>intro c3b0 c3b1 H
 ·obtain rfl:=sI H
  exact fS
 revert H;refine eN ?_ ?_<;>intro c4b0 c4b1 H
 ·obtain rfl:=sI H
  exact fS
 replace H:=bE H;obtain⟨t103,A5,H⟩:=H
 cases t103
 case false =>
  rw[if_neg nft] at H
  obtain rfl:=sI H
  go_wp2_with (refine gB 213 19 Tryz.func213 (Xq.calls _ _ _ _ _ _ _ _ _ (rW HR0_2 HB HC0_2) (rW HR1_2 HB HC1_2) A5.out) ?_;intro wz3 hb;replace BKz1:=aB BKz1 hb;replace BKz2:=aB BKz2 hb;replace HB:=aS HB hb;clear hb)
  go_ret
  exact⟨rE,(hX HB.out)⟩
 rw[if_pos rfl] at H
 replace H:=bE H;obtain⟨t104,A7,H⟩:=H
 go_wp2_with (refine gB 213 19 Tryz.func213 (Xq.calls _ _ _ _ _ _ _ _ _ (rW HR0_2 HB HC0_2) (rW HR1_2 HB HC1_2) A5.out) ?_;intro wz3 hb;replace BKz1:=aB BKz1 hb;replace BKz2:=aB BKz2 hb;replace HB:=aS HB hb;clear hb;have hczz11:=cZ5 BKz1.out;have hczz16:=cZ5 BKz2.out;refine Stop.out ?_)
 refine⟨?_⟩
 cases t104
 case true =>
  rw[if_pos rfl] at H
  obtain rfl:=sI H
  go_wp2_with (refine gB 190 25 Tryz.func190 (XaE.calls _ _ _ _ _ _ _ _ _ _ _ (rW HR0_4 HB HC0_4) (rW HR1_4 HB HC1_4) A7.out) ?_;intro wz4 hb;replace BKz1:=aB BKz1 hb;replace BKz2:=aB BKz2 hb;replace HB:=aS HB hb;clear hb)
  go_ret
  exact⟨rE,(hX HB.out)⟩
 rw[if_neg nft] at H
 obtain rfl:=sI H
 go_wp2_with (refine gB 190 25 Tryz.func190 (XaE.calls _ _ _ _ _ _ _ _ _ _ _ (rW HR0_4 HB HC0_4) (rW HR1_4 HB HC1_4) A7.out) ?_;intro wz4 hb;replace BKz1:=aB BKz1 hb;replace BKz2:=aB BKz2 hb;replace HB:=aS HB hb;clear hb)
 go_ret
 exact⟨rE,(hX HB.out)⟩
def XaG.f (k:Nat) (l0_0:List (S69)) (a0_1:Int) (a0_2:Bool) (l0_3:List (S172)) (l0_4:List (S174)) (l1_0:List (S69)) (a1_1:Int) (a1_2:Bool) (l1_3:List (S172)) (l1_4:List (S174)):Option (Bool):=(XA.f k l0_0 l1_0).bind fun t103=>(if t103=true then (if a0_1=a1_1 then (if (a0_2 != a1_2)=true then (some false) else ((Xu.f k l0_3 l1_3).bind fun t104=>(if t104=true then ((Xv.f k l0_4 l1_4).bind fun t105=>(if t105=true then (some true) else (some false))) else (some false)))) else (some false)) else (some false))
theorem XaG.calls (k:Nat) (A0_0:Option Addr) (c0_0:Nat) (l0_0:List (S69)) (a0_1:Int) (a0_2:Bool) (A0_3:Option Addr) (c0_3:Nat) (l0_3:List (S172)) (A0_4:Option Addr) (c0_4:Nat) (l0_4:List (S174)) (A1_0:Option Addr) (c1_0:Nat) (l1_0:List (S69)) (a1_1:Int) (a1_2:Bool) (A1_3:Option Addr) (c1_3:Nat) (l1_3:List (S172)) (A1_4:Option Addr) (c1_4:Nat) (l1_4:List (S174)) (r:Bool) (w:World) (h0_0:Rw k69 w A0_0 c0_0 l0_0) (h0_3:Rw k172 w A0_3 c0_3 l0_3) (h0_4:Rw k174 w A0_4 c0_4 l0_4) (h1_0:Rw k69 w A1_0 c1_0 l1_0) (h1_3:Rw k172 w A1_3 c1_3 l1_3) (h1_4:Rw k174 w A1_4 c1_4 l1_4) (H:XaG.f k l0_0 a0_1 a0_2 l0_3 l0_4 l1_0 a1_1 a1_2 l1_3 l1_4=some r) :
  Calls Tryz.prog 111 #[.agg #[.slice A0_0 l0_0.length c0_0,.int .i64 a0_1,.bool a0_2,.slice A0_3 l0_3.length c0_3,.slice A0_4 l0_4.length c0_4],.agg #[.slice A1_0 l1_0.length c1_0,.int .i64 a1_1,.bool a1_2,.slice A1_3 l1_3.length c1_3,.slice A1_4 l1_4.length c1_4]] w fun e w'=>e = .returned (.bool r)∧Below w.heap.size w w':=by
 have hu97:=Tryz.underlying97
 obtain⟨HR0_0,HC0_0⟩:=h0_0
 obtain⟨HR0_3,HC0_3⟩:=h0_3
 obtain⟨HR0_4,HC0_4⟩:=h0_4
 obtain⟨HR1_0,HC1_0⟩:=h1_0
 obtain⟨HR1_3,HC1_3⟩:=h1_3
 obtain⟨HR1_4,HC1_4⟩:=h1_4
 have HB:=aM (Below.refl w.heap.size w)
 unfold XaG.f at H
 replace H:=bE H;obtain⟨t103,A3,H⟩:=H
 go_enter Tryz.func111,Tryz.ntmps111
 go_wp2_with (first | (refine boxE 2 #[.slice A0_0 l0_0.length c0_0,.int .i64 a0_1,.bool a0_2,.slice A0_3 l0_3.length c0_3,.slice A0_4 l0_4.length c0_4] 97 ?_;intro gbz1 hg wz1 hbox hb;have BKz1:=aM (hbox);have GWz1:=aG hg HB;replace HB:=aS HB hb;clear hb hbox hg) | (refine boxE 3 #[.slice A1_0 l1_0.length c1_0,.int .i64 a1_1,.bool a1_2,.slice A1_3 l1_3.length c1_3,.slice A1_4 l1_4.length c1_4] 97 ?_;intro gbz2 hg wz2 hbox hb;have BKz2:=aM (hbox);have GWz2:=aG hg HB;have NBz1:=aL hg BKz1;have NBz2:=aR hg BKz1;replace BKz1:=aB BKz1 hb;replace HB:=aS HB hb;clear hb hbox hg;have hnbz1:=nB NBz1 NBz2;have hczz1:=cZ5 BKz1.out;have hczz6:=cZ5 BKz2.out;refine Stop.out ?_))
 refine⟨?_⟩
 cases t103
 case false =>
  rw[if_neg nft] at H
  obtain rfl:=sI H
  go_wp2_with (refine gB 70 9 Tryz.func70 (XA.calls _ _ _ _ _ _ _ _ _ (rW HR0_0 HB HC0_0) (rW HR1_0 HB HC1_0) A3.out) ?_;intro wz3 hb;replace BKz1:=aB BKz1 hb;replace BKz2:=aB BKz2 hb;replace HB:=aS HB hb;clear hb)
  go_ret
  exact⟨rE,(hX HB.out)⟩
 rw[if_pos rfl] at H
 go_wp2_with (refine gB 70 9 Tryz.func70 (XA.calls _ _ _ _ _ _ _ _ _ (rW HR0_0 HB HC0_0) (rW HR1_0 HB HC1_0) A3.out) ?_;intro wz3 hb;replace BKz1:=aB BKz1 hb;replace BKz2:=aB BKz2 hb;replace HB:=aS HB hb;clear hb;have hczz11:=cZ5 BKz1.out;have hczz16:=cZ5 BKz2.out;refine Stop.out ?_)
 refine⟨?_⟩
 revert H;refine eN ?_ ?_<;>intro c5b0 c5b1 H
 ·obtain rfl:=sI H
  exact fS
 by_cases c6:(a0_2 != a1_2)=true
 ·rw[if_pos c6] at H
  have c6b0:(a0_2 != a1_2)=true:=c6
  (try (have c6b1:decide (a0_2=a1_2)=false:=by simpa using c6))
  (try (have c6b2:(a0_2 == a1_2)=false:=by simpa using c6))
  (try (have c6b3:¬ (a0_2=a1_2):=by simpa using c6))
  clear c6
  exact fR
 rw[if_neg c6] at H
 have c6b0:(a0_2 != a1_2)=false:=by simpa using c6
 (try (have c6b1:decide (a0_2=a1_2)=true:=by simpa using c6))
 (try (have c6b2:(a0_2 == a1_2)=true:=by simpa using c6))
 clear c6
 replace H:=bE H;obtain⟨t104,A15,H⟩:=H
 cases t104
 case false =>
  rw[if_neg nft] at H
  obtain rfl:=sI H
  go_wp2_with (refine gB 188 25 Tryz.func188 (Xu.calls _ _ _ _ _ _ _ _ _ (rW HR0_3 HB HC0_3) (rW HR1_3 HB HC1_3) A15.out) ?_;intro wz4 hb;replace BKz1:=aB BKz1 hb;replace BKz2:=aB BKz2 hb;replace HB:=aS HB hb;clear hb)
  go_ret
  exact⟨rE,(hX HB.out)⟩
 rw[if_pos rfl] at H
 replace H:=bE H;obtain⟨t105,A17,H⟩:=H
 go_wp2_with (refine gB 188 25 Tryz.func188 (Xu.calls _ _ _ _ _ _ _ _ _ (rW HR0_3 HB HC0_3) (rW HR1_3 HB HC1_3) A15.out) ?_;intro wz4 hb;replace BKz1:=aB BKz1 hb;replace BKz2:=aB BKz2 hb;replace HB:=aS HB hb;clear hb;have hczz21:=cZ5 BKz1.out;have hczz26:=cZ5 BKz2.out;refine Stop.out ?_)
 refine⟨?_⟩
 cases t105
 case true =>
  rw[if_pos rfl] at H
  obtain rfl:=sI H
  go_wp2_with (refine gB 189 31 Tryz.func189 (Xv.calls _ _ _ _ _ _ _ _ _ (rW HR0_4 HB HC0_4) (rW HR1_4 HB HC1_4) A17.out) ?_;intro wz5 hb;replace BKz1:=aB BKz1 hb;replace BKz2:=aB BKz2 hb;replace HB:=aS HB hb;clear hb)
  go_ret
  exact⟨rE,(hX HB.out)⟩
 rw[if_neg nft] at H
 obtain rfl:=sI H
 go_wp2_with (refine gB 189 31 Tryz.func189 (Xv.calls _ _ _ _ _ _ _ _ _ (rW HR0_4 HB HC0_4) (rW HR1_4 HB HC1_4) A17.out) ?_;intro wz5 hb;replace BKz1:=aB BKz1 hb;replace BKz2:=aB BKz2 hb;replace HB:=aS HB hb;clear hb)
 go_ret
 exact⟨rE,(hX HB.out)⟩
def XaS.f (k:Nat) (a0_0:Int) (a0_1:Int) (a0_2:Int) (a0_3:Int) (a0_4:Int) (a0_5:Int) (a0_6:Int) (a0_7:Int) (l0_8:List Int) (a1_0:Int) (a1_1:Int) (a1_2:Int) (a1_3:Int) (a1_4:Int) (a1_5:Int) (a1_6:Int) (a1_7:Int) (l1_8:List Int):Option (Bool):=if a0_0=a1_0 then ((XaM.f a0_1 a0_2 a0_3 a1_1 a1_2 a1_3).bind fun t103=>(if t103=true then (if a0_4=a1_4 then (if a0_5=a1_5 then (if a0_6=a1_6 then ((XaE.f k a0_7 l0_8 a1_7 l1_8).bind fun t104=>(if t104=true then (some true) else (some false))) else (some false)) else (some false)) else (some false)) else (some false))) else (some false)
theorem XaS.calls (k:Nat) (a0_0:Int) (a0_1:Int) (a0_2:Int) (a0_3:Int) (a0_4:Int) (a0_5:Int) (a0_6:Int) (a0_7:Int) (A0_8:Option Addr) (c0_8:Nat) (l0_8:List Int) (a1_0:Int) (a1_1:Int) (a1_2:Int) (a1_3:Int) (a1_4:Int) (a1_5:Int) (a1_6:Int) (a1_7:Int) (A1_8:Option Addr) (c1_8:Nat) (l1_8:List Int) (r:Bool) (w:World) (h0_8:Rw (Kd.int .i64) w A0_8 c0_8 l0_8) (h1_8:Rw (Kd.int .i64) w A1_8 c1_8 l1_8) (H:XaS.f k a0_0 a0_1 a0_2 a0_3 a0_4 a0_5 a0_6 a0_7 l0_8 a1_0 a1_1 a1_2 a1_3 a1_4 a1_5 a1_6 a1_7 l1_8=some r) :
  Calls Tryz.prog 112 #[.agg #[.int .i64 a0_0,.int .i64 a0_1,.int .i64 a0_2,.int .i64 a0_3,.int .i64 a0_4,.int .i64 a0_5,.int .i64 a0_6,.int .i64 a0_7,.slice A0_8 l0_8.length c0_8],.agg #[.int .i64 a1_0,.int .i64 a1_1,.int .i64 a1_2,.int .i64 a1_3,.int .i64 a1_4,.int .i64 a1_5,.int .i64 a1_6,.int .i64 a1_7,.slice A1_8 l1_8.length c1_8]] w fun e w'=>e = .returned (.bool r)∧Below w.heap.size w w':=by
 have hu73:=Tryz.underlying73
 have hu69:=Tryz.underlying69
 have hu71:=Tryz.underlying71
 obtain⟨HR0_8,HC0_8⟩:=h0_8
 obtain⟨HR1_8,HC1_8⟩:=h1_8
 have HB:=aM (Below.refl w.heap.size w)
 unfold XaS.f at H
 go_enter Tryz.func112,Tryz.ntmps112
 go_wp2_with (first | (refine boxE 2 #[.int .i64 a0_0,.int .i64 a0_1,.int .i64 a0_2,.int .i64 a0_3,.int .i64 a0_4,.int .i64 a0_5,.int .i64 a0_6,.int .i64 a0_7,.slice A0_8 l0_8.length c0_8] 73 ?_;intro gbz1 hg wz1 hbox hb;have BKz1:=aM (hbox);have GWz1:=aG hg HB;replace HB:=aS HB hb;clear hb hbox hg) | (refine boxE 3 #[.int .i64 a1_0,.int .i64 a1_1,.int .i64 a1_2,.int .i64 a1_3,.int .i64 a1_4,.int .i64 a1_5,.int .i64 a1_6,.int .i64 a1_7,.slice A1_8 l1_8.length c1_8] 73 ?_;intro gbz2 hg wz2 hbox hb;have BKz2:=aM (hbox);have GWz2:=aG hg HB;have NBz1:=aL hg BKz1;have NBz2:=aR hg BKz1;replace BKz1:=aB BKz1 hb;replace HB:=aS HB hb;clear hb hbox hg;have hnbz1:=nB NBz1 NBz2;have hczz1:=cZ9 BKz1.out;have hczz10:=cZ9 BKz2.out;refine Stop.out ?_))
 refine⟨?_⟩
 revert H;refine eN ?_ ?_<;>intro c3b0 c3b1 H
 ·obtain rfl:=sI H
  exact fS
 replace H:=bE H;obtain⟨t103,A4,H⟩:=H
 cases t103
 case false =>
  rw[if_neg nft] at H
  obtain rfl:=sI H
  go_wp2_with (refine gB 128 14 Tryz.func128 (XaM.calls _ _ _ _ _ _ _ _ A4.out) ?_;intro wz3 hb;replace BKz1:=aB BKz1 hb;replace BKz2:=aB BKz2 hb;replace HB:=aS HB hb;clear hb)
  go_ret
  exact⟨rE,(hX HB.out)⟩
 rw[if_pos rfl] at H
 go_wp2_with (refine gB 128 14 Tryz.func128 (XaM.calls _ _ _ _ _ _ _ _ A4.out) ?_;intro wz3 hb;replace BKz1:=aB BKz1 hb;replace BKz2:=aB BKz2 hb;replace HB:=aS HB hb;clear hb;have hczz19:=cZ9 BKz1.out;have hczz28:=cZ9 BKz2.out;refine Stop.out ?_)
 refine⟨?_⟩
 revert H;refine eN ?_ ?_<;>intro c6b0 c6b1 H
 ·obtain rfl:=sI H
  exact fS
 revert H;refine eN ?_ ?_<;>intro c7b0 c7b1 H
 ·obtain rfl:=sI H
  exact fS
 revert H;refine eN ?_ ?_<;>intro c8b0 c8b1 H
 ·obtain rfl:=sI H
  exact fS
 replace H:=bE H;obtain⟨t104,A9,H⟩:=H
 cases t104
 case true =>
  rw[if_pos rfl] at H
  obtain rfl:=sI H
  go_wp2_with (refine gB 190 35 Tryz.func190 (XaE.calls _ _ _ _ _ _ _ _ _ _ _ (rW HR0_8 HB HC0_8) (rW HR1_8 HB HC1_8) A9.out) ?_;intro wz4 hb;replace BKz1:=aB BKz1 hb;replace BKz2:=aB BKz2 hb;replace HB:=aS HB hb;clear hb)
  go_ret
  exact⟨rE,(hX HB.out)⟩
 rw[if_neg nft] at H
 obtain rfl:=sI H
 go_wp2_with (refine gB 190 35 Tryz.func190 (XaE.calls _ _ _ _ _ _ _ _ _ _ _ (rW HR0_8 HB HC0_8) (rW HR1_8 HB HC1_8) A9.out) ?_;intro wz4 hb;replace BKz1:=aB BKz1 hb;replace BKz2:=aB BKz2 hb;replace HB:=aS HB hb;clear hb)
 go_ret
 exact⟨rE,(hX HB.out)⟩
end Go.Proofs.YtmljebgideecjaaGreat.P2
