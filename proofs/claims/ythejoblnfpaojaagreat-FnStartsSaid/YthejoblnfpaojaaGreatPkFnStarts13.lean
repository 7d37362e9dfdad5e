/- A part of the proof of the law FnStarts: texts of this seat, merged (words, printed functions of the program, plain lemmas). Conditions: none of its own. -/
import Derived.Test.YthejoblnfpaojaaGreatPkFnStarts11
set_option linter.unusedSimpArgs false
set_option linter.unusedVariables false
set_option maxHeartbeats 8000000
set_option maxRecDepth 100000
namespace Go.Proofs.YthejoblnfpaojaaGreat.P
open Go.Proofs.YthejoblnfpaojaaGreatZ Go.RowKit Go.Proofs.YthejoblnfpaojaaGreatW.PrintWords Go.Proofs.YthejoblnfpaojaaGreatW.PrintLast Go.Proofs.YthejoblnfpaojaaGreatW.PrintMore
attribute [local go_sem] max2_int min2_int max_two min_two max_three min_three max_four min_four   -- for this text's walks alone
def XC.f (a0:Int):Option (Bool):=(Xe.f a0 0 1000).bind fun t101=>(some t101)
theorem XC.calls (a0:Int) (r:Bool) (w:World) (H:XC.f a0=some r) :
  Calls Tryz.prog 102 #[.int .i64 a0] w fun e w'=>e = .returned (.bool r)∧Drawn0 w w':=by
 unfold XC.f at H
 replace H:=bE H;obtain⟨t101,A2,H⟩:=H
 obtain rfl:=sI H
 go_enter Tryz.func102,Tryz.ntmps102
 go_wp2_with (refine gD 88 4 Tryz.func88 (Xe.calls _ _ _ _ _ A2.out) ?_;intro nd)
 go_ret
 exact⟨by first | rfl | (simp;done) | (simp[*];done),dX⟩
def X6.f (a0:Int):Option (Bool):=(Xe.f a0 0 19).bind fun t101=>(some t101)
theorem X6.calls (a0:Int) (r:Bool) (w:World) (H:X6.f a0=some r) :
  Calls Tryz.prog 103 #[.int .i64 a0] w fun e w'=>e = .returned (.bool r)∧Drawn0 w w':=by
 unfold X6.f at H
 replace H:=bE H;obtain⟨t101,A2,H⟩:=H
 obtain rfl:=sI H
 go_enter Tryz.func103,Tryz.ntmps103
 go_wp2_with (refine gD 88 4 Tryz.func88 (Xe.calls _ _ _ _ _ A2.out) ?_;intro nd)
 go_ret
 exact⟨by first | rfl | (simp;done) | (simp[*];done),dX⟩
def XQ.f (a0:Int):Option (Bool):=(Xe.f a0 1 6).bind fun t101=>(some t101)
theorem XQ.calls (a0:Int) (r:Bool) (w:World) (H:XQ.f a0=some r) :
  Calls Tryz.prog 136 #[.int .i64 a0] w fun e w'=>e = .returned (.bool r)∧Drawn0 w w':=by
 unfold XQ.f at H
 replace H:=bE H;obtain⟨t101,A2,H⟩:=H
 obtain rfl:=sI H
 go_enter Tryz.func136,Tryz.ntmps136
 go_wp2_with (refine gD 88 4 Tryz.func88 (Xe.calls _ _ _ _ _ A2.out) ?_;intro nd)
 go_ret
 exact⟨by first | rfl | (simp;done) | (simp[*];done),dX⟩
def slices_Contains_int_int.f (k:Nat) (l0:List Int) (a1:Int):Option (Bool):=(slices_Index_int_int.f k l0 a1).bind fun t101=>(some (decide (t101 ≥ 0)))
theorem slices_Contains_int_int.calls (k:Nat) (A0:Option Addr) (c0:Nat) (l0:List Int) (a1:Int) (r:Bool) (w:World) (hr0:Kd.C (Kd.int .i64) w A0 l0.length l0) (hc0:l0.length≤c0) (H:slices_Contains_int_int.f k l0 a1=some r) :
  Calls Tryz.prog 137 #[.slice A0 l0.length c0,.int .i64 a1] w fun e w'=>e = .returned (.bool r)∧Drawn0 w w':=by
 have HR0:=aM hr0
 have HC0:=aM hc0
 clear hr0 hc0
 unfold slices_Contains_int_int.f at H
 replace H:=bE H;obtain⟨t101,A3,H⟩:=H
 obtain rfl:=sI H
 go_enter Tryz.func137,Tryz.ntmps137
 go_wp2_with (refine gD 190 7 Tryz.func190 (slices_Index_int_int.calls _ _ _ _ _ _ _ (cX HR0.out) HC0.out A3.out) ?_;intro nd)
 go_ret
 exact⟨by first | rfl | (simp;done) | (simp[*];done),dX⟩
def X7.f (a0_0:Int) (a0_1:Int) (a0_2:Int) (a0_3:Int) (a0_4:Int) (a0_5:Int) (a0_6:Int) (a0_7:Int) (l0_8:List Int) (a1:Int) (l2_0:List (S51)) (l2_1:List (S58)) (l2_2:List (S108)) (a2_3:Int) (l2_4:List (S80)) (l2_5:List Int) (l2_6:List Int) (a2_7:Int):Option (Bool):=if a1=(-1) then (some true) else ((Xe.f a1 a0_4 a2_3).bind fun t102=>(some t102))
theorem X7.calls (a0_0:Int) (a0_1:Int) (a0_2:Int) (a0_3:Int) (a0_4:Int) (a0_5:Int) (a0_6:Int) (a0_7:Int) (A0_8:Option Addr) (c0_8:Nat) (l0_8:List Int) (a1:Int) (gc2:Nat) (A2_0:Option Addr) (c2_0:Nat) (l2_0:List (S51)) (A2_1:Option Addr) (c2_1:Nat) (l2_1:List (S58)) (A2_2:Option Addr) (c2_2:Nat) (l2_2:List (S108)) (a2_3:Int) (A2_4:Option Addr) (c2_4:Nat) (l2_4:List (S80)) (A2_5:Option Addr) (c2_5:Nat) (l2_5:List Int) (A2_6:Option Addr) (c2_6:Nat) (l2_6:List Int) (a2_7:Int) (r:Bool) (w:World) (h0_8:Rw (Kd.int .i64) w A0_8 c0_8 l0_8) (h2_0:Rw k51 w A2_0 c2_0 l2_0) (h2_1:Rw k58 w A2_1 c2_1 l2_1) (h2_2:Rw k108 w A2_2 c2_2 l2_2) (h2_4:Rw k80 w A2_4 c2_4 l2_4) (h2_5:Rw (Kd.int .i64) w A2_5 c2_5 l2_5) (h2_6:Rw (Kd.int .i64) w A2_6 c2_6 l2_6) (hbc2:w.heap[gc2]? = some (.cells #[.slice A2_0 l2_0.length c2_0,.slice A2_1 l2_1.length c2_1,.slice A2_2 l2_2.length c2_2,.int .i64 a2_3,.slice A2_4 l2_4.length c2_4,.slice A2_5 l2_5.length c2_5,.slice A2_6 l2_6.length c2_6,.int .i64 a2_7] 37 (0,0))) (H:X7.f a0_0 a0_1 a0_2 a0_3 a0_4 a0_5 a0_6 a0_7 l0_8 a1 l2_0 l2_1 l2_2 a2_3 l2_4 l2_5 l2_6 a2_7=some r) :
  Calls Tryz.prog 89 #[.agg #[.int .i64 a0_0,.int .i64 a0_1,.int .i64 a0_2,.int .i64 a0_3,.int .i64 a0_4,.int .i64 a0_5,.int .i64 a0_6,.int .i64 a0_7,.slice A0_8 l0_8.length c0_8],.int .i64 a1,.pointer (some ⟨gc2,0,none⟩)] w fun e w'=>e = .returned (.bool r)∧Below w.heap.size w w':=by
 have hu80:=Tryz.underlying80
 obtain⟨HR0_8,HC0_8⟩:=h0_8
 obtain⟨HR2_0,HC2_0⟩:=h2_0
 obtain⟨HR2_1,HC2_1⟩:=h2_1
 obtain⟨HR2_2,HC2_2⟩:=h2_2
 obtain⟨HR2_4,HC2_4⟩:=h2_4
 obtain⟨HR2_5,HC2_5⟩:=h2_5
 obtain⟨HR2_6,HC2_6⟩:=h2_6
 have BKz1:=aM hbc2
 clear hbc2
 have HB:=aM (Below.refl w.heap.size w)
 unfold X7.f at H
 revert H;refine eP ?_ ?_<;>intro c4b0 c4b1 H
 ·obtain rfl:=sI H
  go_enter Tryz.func89,Tryz.ntmps89
  go_wp2_with (refine boxE 3 #[.int .i64 a0_0,.int .i64 a0_1,.int .i64 a0_2,.int .i64 a0_3,.int .i64 a0_4,.int .i64 a0_5,.int .i64 a0_6,.int .i64 a0_7,.slice A0_8 l0_8.length c0_8] 80 ?_;intro gbz1 hg wz1 hbox hb;have BKz2:=aM (hbox);have GWz1:=aG hg HB;have GEz1:=aG hg HB;have NBz1:=aL hg BKz1;have NBz2:=aR hg BKz1;replace BKz1:=aB BKz1 hb;replace HB:=aS HB hb;clear hb hbox hg)
  go_ret
  exact⟨rE,(hX HB.out)⟩
 replace H:=bE H;obtain⟨tz1,Az1,H⟩:=H
 obtain rfl:=sI H
 go_enter Tryz.func89,Tryz.ntmps89
 go_wp2_with (first | (refine boxE 3 #[.int .i64 a0_0,.int .i64 a0_1,.int .i64 a0_2,.int .i64 a0_3,.int .i64 a0_4,.int .i64 a0_5,.int .i64 a0_6,.int .i64 a0_7,.slice A0_8 l0_8.length c0_8] 80 ?_;intro gbz1 hg wz2 hbox hb;have BKz2:=aM (hbox);have GWz1:=aG hg HB;have GEz1:=aG hg HB;have NBz1:=aL hg BKz1;have NBz2:=aR hg BKz1;replace BKz1:=aB BKz1 hb;replace HB:=aS HB hb;clear hb hbox hg;have hnbz1:=nB NBz2 NBz1;have hczz1:=cZ9 BKz2.out;have hczz10:=cZ8 BKz1.out) | (go_at_call 88;(with_reducible refine(Xe.calls a1 a0_4 a2_3 tz1 _ Az1.out).mono ?_);rintro e w' ⟨rfl,⟨nd,rfl⟩⟩))
 go_ret
 exact⟨rE,(hX HB.out)⟩
def Xaw.f (a0:Int):Option (Bool):=(Xe.f a0 0 3).bind fun t101=>(some t101)
theorem Xaw.calls (a0:Int) (r:Bool) (w:World) (H:Xaw.f a0=some r) :
  Calls Tryz.prog 152 #[.int .i64 a0] w fun e w'=>e = .returned (.bool r)∧Drawn0 w w':=by
 unfold Xaw.f at H
 replace H:=bE H;obtain⟨t101,A2,H⟩:=H
 obtain rfl:=sI H
 go_enter Tryz.func152,Tryz.ntmps152
 go_wp2_with (refine gD 88 4 Tryz.func88 (Xe.calls _ _ _ _ _ A2.out) ?_;intro nd)
 go_ret
 exact⟨by first | rfl | (simp;done) | (simp[*];done),dX⟩
def Xao.f (a0:Int):Option (Bool):=(Xe.f a0 0 2).bind fun t101=>(some t101)
theorem Xao.calls (a0:Int) (r:Bool) (w:World) (H:Xao.f a0=some r) :
  Calls Tryz.prog 153 #[.int .i64 a0] w fun e w'=>e = .returned (.bool r)∧Drawn0 w w':=by
 unfold Xao.f at H
 replace H:=bE H;obtain⟨t101,A2,H⟩:=H
 obtain rfl:=sI H
 go_enter Tryz.func153,Tryz.ntmps153
 go_wp2_with (refine gD 88 4 Tryz.func88 (Xe.calls _ _ _ _ _ A2.out) ?_;intro nd)
 go_ret
 exact⟨by first | rfl | (simp;done) | (simp[*];done),dX⟩
def Xak.f (a0_0:Int) (a0_1:Int) (a0_2:Int) (a0_3:Int) (a1:Int):Option (Bool):=(Xe.f a0_0 0 (wrap64 (a1 - 1))).bind fun t102=>(if t102=true then ((Xe.f a0_1 1 1000000).bind fun t103=>(if t103=true then ((Xe.f a0_2 0 20).bind fun t104=>(if t104=true then ((Xe.f a0_3 0 20).bind fun t105=>(some (!t105))) else (some true))) else (some true))) else (some true))
theorem Xak.calls (a0_0:Int) (a0_1:Int) (a0_2:Int) (a0_3:Int) (gc1:Nat) (a1:Int) (r:Bool) (w:World) (hbc1:w.heap[gc1]? = some (.cells #[.int .i64 a1] 3 (0,0))) (H:Xak.f a0_0 a0_1 a0_2 a0_3 a1=some r) :
  Calls Tryz.prog 159 #[.agg #[.int .i64 a0_0,.int .i64 a0_1,.int .i64 a0_2,.int .i64 a0_3],.pointer (some ⟨gc1,0,none⟩)] w fun e w'=>e = .returned (.bool r)∧Below w.heap.size w w':=by
 have hu154:=Tryz.underlying154
 have BKz1:=aM hbc1
 clear hbc1
 have HB:=aM (Below.refl w.heap.size w)
 unfold Xak.f at H
 replace H:=bE H;obtain⟨tz1,Az1,H⟩:=H
 cases tz1
 case false =>
  rw[if_neg nft] at H
  obtain rfl:=sI H
  go_enter Tryz.func159,Tryz.ntmps159
  go_wp2_with (first | (refine boxE 2 #[.int .i64 a0_0,.int .i64 a0_1,.int .i64 a0_2,.int .i64 a0_3] 154 ?_;intro gbz1 hg wz4 hbox hb;have BKz2:=aM (hbox);have GWz1:=aG hg HB;have GEz1:=aG hg HB;have NBz1:=aL hg BKz1;have NBz2:=aR hg BKz1;replace BKz1:=aB BKz1 hb;replace HB:=aS HB hb;clear hb hbox hg;have hnbz4:=nB NBz2 NBz1;have hczz16:=cZ4 BKz2.out;have hczz20:=cZ1 BKz1.out) | (refine gD 88 8 Tryz.func88 (Xe.calls a0_0 0 (wrap64 (a1 - 1)) false _ Az1.out) ?_;intro nd))
  go_ret
  exact⟨rE,(hX HB.out)⟩
 rw[if_pos rfl] at H
 replace H:=bE H;obtain⟨tz2,Az2,H⟩:=H
 cases tz2
 case false =>
  rw[if_neg nft] at H
  obtain rfl:=sI H
  go_enter Tryz.func159,Tryz.ntmps159
  go_wp2_with (first | (refine boxE 2 #[.int .i64 a0_0,.int .i64 a0_1,.int .i64 a0_2,.int .i64 a0_3] 154 ?_;intro gbz1 hg wz3 hbox hb;have BKz2:=aM (hbox);have GWz1:=aG hg HB;have GEz1:=aG hg HB;have NBz1:=aL hg BKz1;have NBz2:=aR hg BKz1;replace BKz1:=aB BKz1 hb;replace HB:=aS HB hb;clear hb hbox hg;have hnbz3:=nB NBz2 NBz1;have hczz11:=cZ4 BKz2.out;have hczz15:=cZ1 BKz1.out) | (refine gD 88 8 Tryz.func88 (Xe.calls a0_0 0 (wrap64 (a1 - 1)) true _ Az1.out) ?_;intro nd) | (go_at_call 88;(with_reducible refine(Xe.calls a0_1 1 1000000 false _ Az2.out).mono ?_);rintro e w' ⟨rfl,⟨nd,rfl⟩⟩))
  go_ret
  exact⟨rE,(hX HB.out)⟩
 rw[if_pos rfl] at H
 replace H:=bE H;obtain⟨tz3,Az3,H⟩:=H
 cases tz3
 case false =>
  rw[if_neg nft] at H
  obtain rfl:=sI H
  go_enter Tryz.func159,Tryz.ntmps159
  go_wp2_with (first | (refine boxE 2 #[.int .i64 a0_0,.int .i64 a0_1,.int .i64 a0_2,.int .i64 a0_3] 154 ?_;intro gbz1 hg wz2 hbox hb;have BKz2:=aM (hbox);have GWz1:=aG hg HB;have GEz1:=aG hg HB;have NBz1:=aL hg BKz1;have NBz2:=aR hg BKz1;replace BKz1:=aB BKz1 hb;replace HB:=aS HB hb;clear hb hbox hg;have hnbz2:=nB NBz2 NBz1;have hczz6:=cZ4 BKz2.out;have hczz10:=cZ1 BKz1.out) | (refine gD 88 8 Tryz.func88 (Xe.calls a0_0 0 (wrap64 (a1 - 1)) true _ Az1.out) ?_;intro nd) | (go_at_call 88;(with_reducible refine(Xe.calls a0_1 1 1000000 true _ Az2.out).mono ?_);rintro e w' ⟨rfl,⟨nd,rfl⟩⟩) | (go_at_call 88;(with_reducible refine(Xe.calls a0_2 0 20 false _ Az3.out).mono ?_);rintro e w' ⟨rfl,⟨nd,rfl⟩⟩))
  go_ret
  exact⟨rE,(hX HB.out)⟩
 rw[if_pos rfl] at H
 replace H:=bE H;obtain⟨tz4,Az4,H⟩:=H
 obtain rfl:=sI H
 go_enter Tryz.func159,Tryz.ntmps159
 go_wp2_with (first | (refine boxE 2 #[.int .i64 a0_0,.int .i64 a0_1,.int .i64 a0_2,.int .i64 a0_3] 154 ?_;intro gbz1 hg wz1 hbox hb;have BKz2:=aM (hbox);have GWz1:=aG hg HB;have GEz1:=aG hg HB;have NBz1:=aL hg BKz1;have NBz2:=aR hg BKz1;replace BKz1:=aB BKz1 hb;replace HB:=aS HB hb;clear hb hbox hg;have hnbz1:=nB NBz2 NBz1;have hczz1:=cZ4 BKz2.out;have hczz5:=cZ1 BKz1.out) | (refine gD 88 8 Tryz.func88 (Xe.calls a0_0 0 (wrap64 (a1 - 1)) true _ Az1.out) ?_;intro nd) | (go_at_call 88;(with_reducible refine(Xe.calls a0_1 1 1000000 true _ Az2.out).mono ?_);rintro e w' ⟨rfl,⟨nd,rfl⟩⟩) | (go_at_call 88;(with_reducible refine(Xe.calls a0_2 0 20 true _ Az3.out).mono ?_);rintro e w' ⟨rfl,⟨nd,rfl⟩⟩) | (go_at_call 88;(with_reducible refine(Xe.calls a0_3 0 20 tz4 _ Az4.out).mono ?_);rintro e w' ⟨rfl,⟨nd,rfl⟩⟩))
 go_ret
 exact⟨rE,(hX HB.out)⟩
def Xav.f (l0:List (S78)):Option ((List (S78)) × Int × Bool × (List (S152)) × (List (S154))):=(XaQ.f l0).bind fun t102=>(some (t102,0,false,([]:List (S152)),([]:List (S154))))
theorem Xav.calls (A0:Option Addr) (c0:Nat) (l0:List (S78)) (r1:List (S78)) (r2:Int) (r3:Bool) (r4:List (S152)) (r5:List (S154)) (w:World) (h0:Rw k78 w A0 c0 l0) (h:Xav.f l0=some (r1,r2,r3,r4,r5)) :
  Calls Tryz.prog 79 #[.slice A0 l0.length c0] w fun e w'=>∃ v0_ v3_ v4_:Value,e = .returned (.agg #[v0_,.int .i64 r2,.bool r3,v3_,v4_])∧Kd.R k78 78 w' w.heap.size (fun _=>True) v0_ r1∧Kd.R k152 152 w' w.heap.size (fun _=>True) v3_ r4∧Kd.R k154 154 w' w.heap.size (fun _=>True) v4_ r5∧Below w.heap.size w w':=by
 have hu108:=Tryz.underlying108
 obtain⟨HR0,HC0⟩:=h0
 have HB:=aM (Below.refl w.heap.size w)
 have H:=h
 unfold Xav.f at H
 clear h
 replace H:=bE H;obtain⟨t102,A2,H⟩:=H
 simp only[Option.some.injEq,Prod.mk.injEq] at H
 obtain⟨rfl,rfl,rfl,rfl,rfl⟩:=H
 go_enter Tryz.func79,Tryz.ntmps79
 go_wp2_with (first | (refine boxE 2 #[.slice none 0 0,.int .i64 0,.bool false,.slice none 0 0,.slice none 0 0] 108 ?_;intro gbz1 hg wz1 hbox hb;have BKz1:=aM (hbox);have GWz1:=aG hg HB;replace HB:=aS HB hb;clear hb hbox hg) | (refine goesM 145 4 Tryz.func145 #[.slice A0 l0.length c0] ?_;refine(XaQ.calls _ _ _ _ _ (rW HR0 HB HC0) A2.out).mono ?_;rintro e wz2 ⟨vz1,rfl,hoz1,hb⟩;refine⟨_,rfl,?_⟩;have HOz1:=aM (Kd.R_lower hoz1 (below_size (hX HB.out)));replace BKz1:=aB BKz1 hb;replace HB:=aS HB hb;clear hb hoz1;obtain⟨Aoz1,coz1,eoz1⟩:=Kd.R_slice HOz1.out;subst eoz1;have hczz1:=cZ5 BKz1.out))
 refine bodyPost_ret (results_cell_row rfl _ _ gbz1 108 #[.slice Aoz1 t102.length coz1,.int .i64 0,.bool false,.slice none 0 0,.slice none 0 0] (0,0) _ rfl (bP BKz1.out) Tryz.underlying108 rfl (by kernel_rfl)) rfl ?_
 exact⟨_,(Value.slice none 0 0),(Value.slice none 0 0),rE,(Kd.R_mono (rF HOz1.out BKz1.out) (fun _ hk=>trivial)),(by first | exact Kd.R_nil _ _ _ _ _ | exact Kd.S_nil _ _ _ _ _ | exact Kd.V_nil _ _ _ _ _ | exact Kd.N_nil _ _ _ _ _ | exact Kd.Q_nil _ _ _ _ _),(by first | exact Kd.R_nil _ _ _ _ _ | exact Kd.S_nil _ _ _ _ _ | exact Kd.V_nil _ _ _ _ _ | exact Kd.N_nil _ _ _ _ _ | exact Kd.Q_nil _ _ _ _ _),(hX HB.out)⟩
def Xad.f (a0_0:Int) (a0_1:Int) (a0_2:Int) (a1:Int):Option (Bool):=if a0_1=0 then (if a0_2=0 then ((Xb.f a0_0 0 1000).bind fun t102=>(some t102)) else (some false)) else (if a0_0=0 then ((Xb.f a0_1 1 a1).bind fun t103=>(if t103=true then ((Xb.f a0_2 1 1000000).bind fun t104=>(some t104)) else (some false))) else (some false))
theorem Xad.calls (a0_0:Int) (a0_1:Int) (a0_2:Int) (a1:Int) (r:Bool) (w:World) (H:Xad.f a0_0 a0_1 a0_2 a1=some r) :
  Calls Tryz.prog 32 #[.agg #[.int .i64 a0_0,.int .i64 a0_1,.int .i64 a0_2],.int .i64 a1] w fun e w'=>e = .returned (.bool r)∧Below w.heap.size w w':=by
 have hu51:=Tryz.underlying51
 have HB:=aM (Below.refl w.heap.size w)
 unfold Xad.f at H
 go_enter Tryz.func32,Tryz.ntmps32
 go_wp2_with (refine boxE 2 #[.int .i64 a0_0,.int .i64 a0_1,.int .i64 a0_2] 51 ?_;intro gbz1 hg wz1 hbox hb;have BKz1:=aM (hbox);have GWz1:=aG hg HB;replace HB:=aS HB hb;clear hb hbox hg;have hczz1:=cZ3 BKz1.out;refine Stop.out ?_)
 refine⟨?_⟩
 revert H;refine eP ?_ ?_<;>intro c3b0 c3b1 H
 ·revert H;refine eN ?_ ?_<;>intro c4b0 c4b1 H
  ·obtain rfl:=sI H
   exact fS
  replace H:=bE H;obtain⟨t102,A5,H⟩:=H
  obtain rfl:=sI H
  go_wp2_with (go_at_call 95;(with_reducible refine(Xb.calls _ _ _ _ _ A5.out).mono ?_);rintro e w' ⟨rfl,⟨nd,rfl⟩⟩)
  go_ret
  exact⟨rE,(hX HB.out)⟩
 revert H;refine eN ?_ ?_<;>intro c10b0 c10b1 H
 ·obtain rfl:=sI H
  exact fS
 replace H:=bE H;obtain⟨t103,A11,H⟩:=H
 cases t103
 case false =>
  rw[if_neg nft] at H
  obtain rfl:=sI H
  go_wp2_with (go_at_call 95;(with_reducible refine(Xb.calls _ _ _ _ _ A11.out).mono ?_);rintro e w' ⟨rfl,⟨nd,rfl⟩⟩)
  go_ret
  exact⟨rE,(hX HB.out)⟩
 rw[if_pos rfl] at H
 replace H:=bE H;obtain⟨t104,A13,H⟩:=H
 obtain rfl:=sI H
 go_wp2_with (first | (go_at_call 95;(with_reducible refine(Xb.calls _ _ _ _ _ A11.out).mono ?_);rintro e w' ⟨rfl,⟨nd,rfl⟩⟩) | (go_at_call 95;(with_reducible refine(Xb.calls _ _ _ _ _ A13.out).mono ?_);rintro e w' ⟨rfl,⟨nd,rfl⟩⟩))
 go_ret
 exact⟨rE,(hX HB.out)⟩
end Go.Proofs.YthejoblnfpaojaaGreat.P
