/- A part of the proof of the law FnExactTold: texts of this seat, merged (words, printed functions of the program, plain lemmas). Conditions: none of its own. -/
import Derived.Test.YteamagejhbkhnaaPkFnExactTold17
import Derived.Test.YteamagejhbkhnaaPkFnExactTold18
import Derived.Test.YteamagejhbkhnaaPkFnExactTold19
set_option linter.unusedSimpArgs false
set_option linter.unusedVariables false
set_option maxHeartbeats 8000000
set_option maxRecDepth 100000
namespace Go.Proofs.Yteamagejhbkhnaa.P
open Go.Proofs.YteamagejhbkhnaaZ Go.RowKit Go.Proofs.YteamagejhbkhnaaW.PrintWords Go.Proofs.YteamagejhbkhnaaW.PrintLast Go.Proofs.YteamagejhbkhnaaW.PrintMore
attribute [local go_sem] max2_int min2_int max_two min_two max_three min_three max_four min_four   -- for this text's walks alone
def Xaa.f (k:Nat) (l0_0:List (S172)) (l0_1:List (S165)) (a1:Int):Option (Int):=(X4.f l0_0 a1).bind fun t102=>(if t102<0 then (some (-1)) else ((XD.f k l0_1 t102).bind fun t103=>(if t103<0 then (some (-1)) else (some t103))))
theorem Xaa.calls (k:Nat) (A0_0:Option Addr) (c0_0:Nat) (l0_0:List (S172)) (A0_1:Option Addr) (c0_1:Nat) (l0_1:List (S165)) (a1:Int) (r:Int) (w:World) (hr0_0:Kd.C k172 w A0_0 l0_0.length l0_0) (hc0_0:l0_0.length≤c0_0) (hr0_1:Kd.C k165 w A0_1 l0_1.length l0_1) (hc0_1:l0_1.length≤c0_1) (h:Xaa.f k l0_0 l0_1 a1=some r) :
  Calls Try.prog 115 #[.agg #[.slice A0_0 l0_0.length c0_0,.slice A0_1 l0_1.length c0_1],.int .i64 a1] w fun e w'=>e = .returned (.int .i64 r)∧Below w.heap.size w w':=by
 have hu75:=Try.underlying75
 have HR0_0:=Aside0.mk hr0_0
 have HC0_0:=Aside0.mk hc0_0
 clear hr0_0 hc0_0
 have HR0_1:=Aside0.mk hr0_1
 have HC0_1:=Aside0.mk hc0_1
 clear hr0_1 hc0_1
 have HB:=Aside0.mk (Below.refl w.heap.size w)
 have H:=h
 unfold Xaa.f at H
 clear h
 replace H:=bE H;obtain⟨t102,A3,H⟩:=H
 go_enter Try.func115,Try.ntmps115
 go_wp2_with (first | ((with_reducible refine gate_dst (N:=2) rfl ?_);refine boxE 2 #[.slice A0_0 l0_0.length c0_0,.slice A0_1 l0_1.length c0_1] 75 ?_;intro gbz1 hg wz1 hbox hb;have BKz1:=Aside0.mk (hbox);have GWz1:=Aside0.mk (gX' hg (hX HB.out));have GEz1:=Aside0.mk (gX' hg (hX HB.out));replace HB:=Aside0.mk (below_step (hX HB.out) hb);clear hb hbox hg;obtain⟨hczz1,hczz2,hfzz1,hfzz2⟩:=cZ2 BKz1.out) | ((with_reducible refine gate_callee (f:=138) rfl ?_);refine goesM 138 8 Try.func138 #[.slice A0_0 l0_0.length c0_0,.int .i64 a1] ?_;refine(X4.calls _ _ l0_0 a1 t102 _ (cC HR0_0.out HB.out) HC0_0.out A3.out).mono ?_;rintro e w' ⟨rfl,⟨nd,rfl⟩⟩;refine⟨_,rfl,?_⟩;refine Stop.out ?_))
 refine⟨?_⟩
 by_cases c4:t102<0
 ·rw[if_pos c4] at H
  have c4b0:=decide_eq_true c4
  clear c4
  obtain rfl:=Option.some.inj H
  go_wp2
  go_ret
  exact⟨rE,(hX HB.out)⟩
 ·rw[if_neg c4] at H
  have c4b0:=decide_eq_false c4
  clear c4
  replace H:=bE H;obtain⟨t103,A7,H⟩:=H
  go_wp2_with (first | ((with_reducible refine gate_callee (f:=139) rfl ?_);refine goesM 139 14 Try.func139 #[.slice A0_1 l0_1.length c0_1,.int .i64 t102] ?_;refine(XD.calls k _ _ l0_1 t102 t103 _ (cC HR0_1.out HB.out) HC0_1.out A7.out).mono ?_;rintro e wz2 ⟨rfl,hb⟩;refine⟨_,rfl,?_⟩;replace BKz1:=Aside0.mk (blk_below (bX BKz1.out) hb);replace HB:=Aside0.mk (below_step (hX HB.out) hb);clear hb;refine Stop.out ?_))
  refine⟨?_⟩
  by_cases c8:t103<0
  ·rw[if_pos c8] at H
   have c8b0:=decide_eq_true c8
   clear c8
   obtain rfl:=Option.some.inj H
   go_wp2
   go_ret
   exact⟨rE,(hX HB.out)⟩
  ·rw[if_neg c8] at H
   have c8b0:=decide_eq_false c8
   clear c8
   obtain rfl:=Option.some.inj H
   go_wp2
   go_ret
   exact⟨rE,(hX HB.out)⟩
def Xab.f (k:Nat) (l0_0:List (S172)) (l0_1:List (S165)):Option ((List (S170)) × (List (S175))):=(XA.f k l0_0).bind fun t104=>((XE.f k l0_1).bind fun t107=>(some (t104,t107)))
theorem Xab.calls (k:Nat) (A0_0:Option Addr) (c0_0:Nat) (l0_0:List (S172)) (A0_1:Option Addr) (c0_1:Nat) (l0_1:List (S165)) (r1:List (S170)) (r2:List (S175)) (w:World) (hr0_0:Kd.C k172 w A0_0 l0_0.length l0_0) (hc0_0:l0_0.length≤c0_0) (hr0_1:Kd.C k165 w A0_1 l0_1.length l0_1) (hc0_1:l0_1.length≤c0_1) (h:Xab.f k l0_0 l0_1=some (r1,r2)) :
  Calls Try.prog 117 #[.agg #[.slice A0_0 l0_0.length c0_0,.slice A0_1 l0_1.length c0_1]] w fun e w'=>∃ v0_ v1_:Value,e = .returned (.agg #[v0_,v1_])∧Kd.R k170 170 w' w.heap.size (fun _=>True) v0_ r1∧Kd.S k175 175 w' w.heap.size (fun _=>True) v1_ r2∧Below w.heap.size w w':=by
 have hu75:=Try.underlying75
 have hu84:=Try.underlying84
 have HR0_0:=Aside0.mk hr0_0
 have HC0_0:=Aside0.mk hc0_0
 clear hr0_0 hc0_0
 have HR0_1:=Aside0.mk hr0_1
 have HC0_1:=Aside0.mk hc0_1
 clear hr0_1 hc0_1
 have HB:=Aside0.mk (Below.refl w.heap.size w)
 have H:=h
 unfold Xab.f at H
 clear h
 replace H:=bE H;obtain⟨t104,A2,H⟩:=H
 replace H:=bE H;obtain⟨t107,A3,H⟩:=H
 simp only[Option.some.injEq,Prod.mk.injEq] at H
 obtain⟨rfl,rfl⟩:=H
 go_enter Try.func117,Try.ntmps117
 go_wp2_with (first | ((with_reducible refine gate_dst (N:=1) rfl ?_);refine boxE 1 #[.slice A0_0 l0_0.length c0_0,.slice A0_1 l0_1.length c0_1] 75 ?_;intro gbz1 hg wz1 hbox hb;have BKz1:=Aside0.mk (hbox);have GWz1:=Aside0.mk (gX' hg (hX HB.out));have GEz1:=Aside0.mk (gX' hg (hX HB.out));replace HB:=Aside0.mk (below_step (hX HB.out) hb);clear hb hbox hg) | ((with_reducible refine gate_dst (N:=2) rfl ?_);refine boxE 2 #[.slice none 0 0,.slice none 0 0] 84 ?_;intro gbz2 hg wz2 hbox hb;have BKz2:=Aside0.mk (hbox);have GWz2:=Aside0.mk (gX' hg (hX HB.out));have GEz2:=Aside0.mk (gX' hg (hX HB.out));have NBz1:=Aside0.mk (gL hg (bX BKz1.out));have NBz2:=Aside0.mk (gG hg (bX BKz1.out));replace BKz1:=Aside0.mk (blk_below (bX BKz1.out) hb);replace HB:=Aside0.mk (below_step (hX HB.out) hb);clear hb hbox hg) | ((with_reducible refine gate_dst (N:=3) rfl ?_);refine boxE 3 #[.slice none 0 0,.slice none 0 0] 84 ?_;intro gbz3 hg wz3 hbox hb;have BKz3:=Aside0.mk (hbox);have GWz3:=Aside0.mk (gX' hg (hX HB.out));have GEz3:=Aside0.mk (gX' hg (hX HB.out));have NBz3:=Aside0.mk (gL hg (bX BKz1.out));have NBz4:=Aside0.mk (gG hg (bX BKz1.out));have NBz5:=Aside0.mk (gL hg (bX BKz2.out));have NBz6:=Aside0.mk (gG hg (bX BKz2.out));replace BKz1:=Aside0.mk (blk_below (bX BKz1.out) hb);replace BKz2:=Aside0.mk (blk_below (bX BKz2.out) hb);replace HB:=Aside0.mk (below_step (hX HB.out) hb);clear hb hbox hg;have hnbz1:=NBz1.out;have hncz1:=NBz2.out;have hnbz2:=NBz3.out;have hncz2:=NBz4.out;obtain⟨hczz1,hczz2,hfzz1,hfzz2⟩:=cZ2 BKz1.out) | ((with_reducible refine gate_callee (f:=141) rfl ?_);refine goesM 141 6 Try.func141 #[.slice A0_0 l0_0.length c0_0] ?_;refine(XA.calls k _ _ l0_0 t104 _ (cC HR0_0.out HB.out) HC0_0.out A2.out).mono ?_;rintro e wz4 ⟨vz1,rfl,hoz1,hb⟩;refine⟨_,rfl,?_⟩;have HOz1:=Aside0.mk (Kd.R_lower hoz1 (below_size (hX HB.out)));replace BKz1:=Aside0.mk (blk_below (bX BKz1.out) hb);replace BKz2:=Aside0.mk (blk_below (bX BKz2.out) hb);replace BKz3:=Aside0.mk (blk_below (bX BKz3.out) hb);replace HB:=Aside0.mk (below_step (hX HB.out) hb);clear hb hoz1;obtain⟨Aoz1,coz1,eoz1⟩:=Kd.R_slice HOz1.out;subst eoz1;have hnbz3:=NBz6.out;have hncz3:=NBz5.out;obtain⟨hczz3,hczz4,hfzz3,hfzz4⟩:=cZ2 BKz3.out;obtain⟨hczz5,hczz6,hfzz5,hfzz6⟩:=cZ2 BKz1.out) | ((with_reducible refine gate_callee (f:=142) rfl ?_);refine goesM 142 10 Try.func142 #[.slice A0_1 l0_1.length c0_1] ?_;refine(XE.calls k _ _ l0_1 t107 _ (by exact Kd.C_below HR0_1.out (hX HB.out)) HC0_1.out A3.out).mono ?_;rintro e wz5 ⟨vz2,rfl,hoz1,hb⟩;refine⟨_,rfl,?_⟩;have HOz2:=Aside0.mk (Kd.S_lower hoz1 (below_size (hX HB.out)));replace HOz1:=Aside0.mk (Kd.R_below (rT (h:=by exact(Kd.R_mono (Kd.R_far (p:=⟨gbz3,0,none⟩) (Kd.R_types HOz1.out BKz3.out (by decide)) (fun _ hk=>hk.2) (.slice Aoz1 t104.length coz1)) (fun _ h_=>h_.1)))) hb);replace BKz1:=Aside0.mk (blk_below (bF BKz1.out) hb);replace BKz2:=Aside0.mk (blk_below (bF BKz2.out) hb);replace BKz3:=Aside0.mk (blk_below (g:=gbz3) (o:=.cells #[.slice Aoz1 t104.length coz1,.slice none 0 0] 84 (0,0)) (bP BKz3.out) hb);replace HB:=Aside0.mk (below_step (hX HB.out) hb);clear hb hoz1;obtain⟨Aoz2,coz2,eoz2⟩:=Kd.S_slice HOz2.out;subst eoz2;obtain⟨hczz7,hczz8,hfzz7,hfzz8⟩:=cZ2 BKz3.out;obtain⟨hczz9,hczz10,hfzz9,hfzz10⟩:=cZ2 BKz2.out))
 refine bodyPost_ret (results_cell_row rfl _ _ gbz2 84 #[.slice Aoz1 t104.length coz1,.slice Aoz2 t107.length coz2] (0,0) _ rfl (bP BKz2.out) Try.underlying84 rfl (by kernel_rfl)) rfl ?_
 exact⟨_,_,rE,(rT (h:=by exact Kd.R_mono (Kd.R_far (p:=⟨gbz2,1,none⟩) (Kd.R_far (p:=⟨gbz2,0,none⟩) (Kd.R_far (p:=⟨gbz3,1,none⟩) (Kd.R_types (Kd.R_types HOz1.out BKz3.out (by decide)) BKz2.out (by decide)) (fun _ hk=>hk.1.2) (.slice Aoz2 t107.length coz2)) (fun _ hk=>hk.2) (.slice Aoz1 t104.length coz1)) (fun _ hk=>hk.2) (.slice Aoz2 t107.length coz2)) (fun _ hk=>trivial))),by (with_reducible repeat (first | apply Kd.S_alloc | apply Kd.S_drewN | apply Kd.S_drew));exact Kd.S_mono (Kd.S_far (p:=⟨gbz2,1,none⟩) (Kd.S_far (p:=⟨gbz2,0,none⟩) (Kd.S_far (p:=⟨gbz3,1,none⟩) (Kd.S_types (Kd.S_types HOz2.out BKz3.out (by decide)) BKz2.out (by decide)) (fun _ hk=>hk.1.2) (.slice Aoz2 t107.length coz2)) (fun _ hk=>hk.2) (.slice Aoz1 t104.length coz1)) (fun _ hk=>hk.2) (.slice Aoz2 t107.length coz2)) (fun _ hk=>trivial),(hX HB.out)⟩
def Xac.f (k:Nat) (l0_0:List (S170)) (l0_1:List (S175)) (l1_0:List (S170)) (l1_1:List (S175)):Option (Bool):=(Xd.f k l0_0 l1_0).bind fun t103=>(if t103=true then ((Xg.f k l0_1 l1_1).bind fun t104=>(if t104=true then (some true) else (some false))) else (some false))
theorem Xac.calls (k:Nat) (A0_0:Option Addr) (c0_0:Nat) (l0_0:List (S170)) (A0_1:Option Addr) (c0_1:Nat) (l0_1:List (S175)) (A1_0:Option Addr) (c1_0:Nat) (l1_0:List (S170)) (A1_1:Option Addr) (c1_1:Nat) (l1_1:List (S175)) (r:Bool) (w:World) (hr0_0:Kd.C k170 w A0_0 l0_0.length l0_0) (hc0_0:l0_0.length≤c0_0) (hr0_1:Kd.C k175 w A0_1 l0_1.length l0_1) (hc0_1:l0_1.length≤c0_1) (hr1_0:Kd.C k170 w A1_0 l1_0.length l1_0) (hc1_0:l1_0.length≤c1_0) (hr1_1:Kd.C k175 w A1_1 l1_1.length l1_1) (hc1_1:l1_1.length≤c1_1) (h:Xac.f k l0_0 l0_1 l1_0 l1_1=some r) :
  Calls Try.prog 120 #[.agg #[.slice A0_0 l0_0.length c0_0,.slice A0_1 l0_1.length c0_1],.agg #[.slice A1_0 l1_0.length c1_0,.slice A1_1 l1_1.length c1_1]] w fun e w'=>e = .returned (.bool r)∧Below w.heap.size w w':=by
 have hu84:=Try.underlying84
 have HR0_0:=Aside0.mk hr0_0
 have HC0_0:=Aside0.mk hc0_0
 clear hr0_0 hc0_0
 have HR0_1:=Aside0.mk hr0_1
 have HC0_1:=Aside0.mk hc0_1
 clear hr0_1 hc0_1
 have HR1_0:=Aside0.mk hr1_0
 have HC1_0:=Aside0.mk hc1_0
 clear hr1_0 hc1_0
 have HR1_1:=Aside0.mk hr1_1
 have HC1_1:=Aside0.mk hc1_1
 clear hr1_1 hc1_1
 have HB:=Aside0.mk (Below.refl w.heap.size w)
 have H:=h
 unfold Xac.f at H
 clear h
 replace H:=bE H;obtain⟨t103,A3,H⟩:=H
 go_enter Try.func120,Try.ntmps120
 go_wp2_with (first | ((with_reducible refine gate_dst (N:=2) rfl ?_);refine boxE 2 #[.slice A0_0 l0_0.length c0_0,.slice A0_1 l0_1.length c0_1] 84 ?_;intro gbz1 hg wz1 hbox hb;have BKz1:=Aside0.mk (hbox);have GWz1:=Aside0.mk (gX' hg (hX HB.out));have GEz1:=Aside0.mk (gX' hg (hX HB.out));replace HB:=Aside0.mk (below_step (hX HB.out) hb);clear hb hbox hg) | ((with_reducible refine gate_dst (N:=3) rfl ?_);refine boxE 3 #[.slice A1_0 l1_0.length c1_0,.slice A1_1 l1_1.length c1_1] 84 ?_;intro gbz2 hg wz2 hbox hb;have BKz2:=Aside0.mk (hbox);have GWz2:=Aside0.mk (gX' hg (hX HB.out));have GEz2:=Aside0.mk (gX' hg (hX HB.out));have NBz1:=Aside0.mk (gL hg (bX BKz1.out));have NBz2:=Aside0.mk (gG hg (bX BKz1.out));replace BKz1:=Aside0.mk (blk_below (bX BKz1.out) hb);replace HB:=Aside0.mk (below_step (hX HB.out) hb);clear hb hbox hg;have hnbz1:=NBz1.out;have hncz1:=NBz2.out;obtain⟨hczz1,hczz2,hfzz1,hfzz2⟩:=cZ2 BKz1.out;obtain⟨hczz3,hczz4,hfzz3,hfzz4⟩:=cZ2 BKz2.out;refine Stop.out ?_))
 refine⟨?_⟩
 by_cases c4:t103=true
 ·subst c4
  rw[if_pos rfl] at H
  replace H:=bE H;obtain⟨t104,A5,H⟩:=H
  go_wp2_with (first | ((with_reducible refine gate_callee (f:=144) rfl ?_);refine goesM 144 9 Try.func144 #[.slice A0_0 l0_0.length c0_0,.slice A1_0 l1_0.length c1_0] ?_;refine(Xd.calls k _ _ l0_0 _ _ l1_0 true _ (cC HR0_0.out HB.out) HC0_0.out (cC HR1_0.out HB.out) HC1_0.out A3.out).mono ?_;rintro e wz3 ⟨rfl,hb⟩;refine⟨_,rfl,?_⟩;replace BKz1:=Aside0.mk (blk_below (bX BKz1.out) hb);replace BKz2:=Aside0.mk (blk_below (bX BKz2.out) hb);replace HB:=Aside0.mk (below_step (hX HB.out) hb);clear hb;obtain⟨hczz5,hczz6,hfzz5,hfzz6⟩:=cZ2 BKz1.out;obtain⟨hczz7,hczz8,hfzz7,hfzz8⟩:=cZ2 BKz2.out;refine Stop.out ?_))
  refine⟨?_⟩
  by_cases c6:t104=true
  ·subst c6
   rw[if_pos rfl] at H
   obtain rfl:=Option.some.inj H
   go_wp2_with (first | ((with_reducible refine gate_callee (f:=145) rfl ?_);refine goesM 145 15 Try.func145 #[.slice A0_1 l0_1.length c0_1,.slice A1_1 l1_1.length c1_1] ?_;refine(Xg.calls k _ _ l0_1 _ _ l1_1 true _ (cC HR0_1.out HB.out) HC0_1.out (cC HR1_1.out HB.out) HC1_1.out A5.out).mono ?_;rintro e wz4 ⟨rfl,hb⟩;refine⟨_,rfl,?_⟩;replace BKz1:=Aside0.mk (blk_below (bX BKz1.out) hb);replace BKz2:=Aside0.mk (blk_below (bX BKz2.out) hb);replace HB:=Aside0.mk (below_step (hX HB.out) hb);clear hb))
   go_ret
   exact⟨rE,(hX HB.out)⟩
  ·replace c6:=Bool.eq_false_iff.mpr c6
   subst c6
   rw[if_neg nft] at H
   obtain rfl:=Option.some.inj H
   go_wp2_with (first | ((with_reducible refine gate_callee (f:=145) rfl ?_);refine goesM 145 15 Try.func145 #[.slice A0_1 l0_1.length c0_1,.slice A1_1 l1_1.length c1_1] ?_;refine(Xg.calls k _ _ l0_1 _ _ l1_1 false _ (cC HR0_1.out HB.out) HC0_1.out (cC HR1_1.out HB.out) HC1_1.out A5.out).mono ?_;rintro e wz4 ⟨rfl,hb⟩;refine⟨_,rfl,?_⟩;replace BKz1:=Aside0.mk (blk_below (bX BKz1.out) hb);replace BKz2:=Aside0.mk (blk_below (bX BKz2.out) hb);replace HB:=Aside0.mk (below_step (hX HB.out) hb);clear hb))
   go_ret
   exact⟨rE,(hX HB.out)⟩
 ·replace c4:=Bool.eq_false_iff.mpr c4
  subst c4
  rw[if_neg nft] at H
  obtain rfl:=Option.some.inj H
  go_wp2_with (first | ((with_reducible refine gate_callee (f:=144) rfl ?_);refine goesM 144 9 Try.func144 #[.slice A0_0 l0_0.length c0_0,.slice A1_0 l1_0.length c1_0] ?_;refine(Xd.calls k _ _ l0_0 _ _ l1_0 false _ (cC HR0_0.out HB.out) HC0_0.out (cC HR1_0.out HB.out) HC1_0.out A3.out).mono ?_;rintro e wz3 ⟨rfl,hb⟩;refine⟨_,rfl,?_⟩;replace BKz1:=Aside0.mk (blk_below (bX BKz1.out) hb);replace BKz2:=Aside0.mk (blk_below (bX BKz2.out) hb);replace HB:=Aside0.mk (below_step (hX HB.out) hb);clear hb))
  go_ret
  exact⟨rE,(hX HB.out)⟩
def Xv.l0:Nat→List (S170)→Int→Int→Option (Int × (List (S170)))
 | 0,_,_,_=>none
 | k+1,x0,x1,x5=>if x5<(x0.length:Int) then (if 0≤x5 then (Xv.l0 k (x0.set (x5:Int).toNat (⟨x1,wrap64 (x1+1),wrap64 ((wrap64 (x1+1))+1)⟩:S170)) (wrap64 ((wrap64 ((wrap64 (x1+1))+1))+1)) (wrap64 (x5+1))) else (none)) else (some (x1,x0))
def Xv.f (k:Nat) (l0:List (S170)) (a1:Int):Option (Int × (List (S170))):=Xv.l0 k l0 a1 0
theorem Xv.calls (k:Nat) (P0_:Nat→Prop) (u9000_:Value) (l0:List (S170)) (a1:Int) (r1:Int) (r2:List (S170)) (w0 w:World) (hB:Below w0.heap.size w0 w) (ho0:Kd.R k170 170 w w0.heap.size P0_ u9000_ l0) (h:Xv.f k l0 a1=some (r1,r2)) :
  Calls Try.prog 147 #[u9000_,.int .i64 a1] w fun e w'=>e = .returned (.int .i64 r1)∧Kd.R k170 170 w' w0.heap.size P0_ u9000_ r2∧Below w0.heap.size w0 w'∧Kept w w' (fun k_=>P0_ k_):=by
 have HO0:=Aside0.mk (Deep.S_flat rfl ho0)
 have HK:=aM (Kept.refl w (fun k_=>P0_ k_))
 have HB:=Aside0.mk hB
 clear hB ho0
 have H':=aM (show Xv.l0 k l0 a1 0=some (r1,r2) from h)
 clear h
 go_enter Try.func147,Try.ntmps147
 go_wp2
 go_loopg [1,5] k (fun kq v1 v5 w'=>∃ (x0:List (S170)) (x1:Int) (x5:Int),v1 = .int .i64 x1∧v5 = .int .i64 x5∧Aside0 (Xv.l0 kq x0 x1 x5=some (r1,r2))∧Aside0 (kq≤k)∧Aside0 (Kd.S k170 170 w' w0.heap.size P0_ u9000_ x0)∧Aside0 (Kept w w' (fun k_=>P0_ k_))∧Aside0 (Below w0.heap.size w0 w'))
 case atStart=>exact⟨l0,a1,0,(by first | rfl | (simp;done) | (simp[*];done)),(by first | rfl | (simp;done) | (simp[*];done)),H',⟨Nat.le_refl _⟩,HO0,HK,HB⟩
 case round =>
  clear H'
  try clear p2
  obtain⟨x0,x1,x5,rfl,rfl,HA,HK1,HO,HK,HB⟩:=hrel
  cases gk with
  | zero=>exact absurd HA.out (by simp[Xv.l0])
  | succ k1 =>
   have H:=HA.out
   clear HA
   simp only[Xv.l0] at H
   by_cases c3:x5<(x0.length:Int)
   ·rw[if_pos c3] at H
    have hq0:=Aside0.mk c3
    have c3b0:decide (x5<(x0.length:Int))=true:=decide_eq_true c3
    by_cases c4:0≤x5
    ·rw[if_pos c4] at H
     have hp0:=Aside0.mk c4
     have c4b0:decide (0≤x5)=true:=decide_eq_true c4
     have H':=Aside0.mk H
     clear H
     obtain⟨go,co,eo,gb,gl,cl,HG⟩:=Kd.S_form HO.out (by omega)
     subst eo
     have GB:=Aside0.mk gb
     clear gb gl HG
     have HM:=aM (show P0_ go from ((Kd.S_R HO.out).1 _ rfl))
     obtain⟨oki,ce,hcl,hM,hcc,hfr,hoki,hH⟩:=Kd.S_elem HO.out z170 x5 c4 c3
     obtain rfl:=k170_openM hM
     have hok:=Aside0.mk hoki
     have HH:=Aside0.mk hH
     have hx0:wr.cell? ⟨go,x5.toNat * 3,none⟩=some (.int .i64 (rd_T170 x0 x5).f0):=(Deep.H_facts HH.out hp0.out hq0.out).1 0 _ rfl
     have hz0:wr.frozen? ⟨go,x5.toNat * 3,none⟩=false:=(Deep.H_facts HH.out hp0.out hq0.out).2 0
     clear hcl hM hcc hfr hoki hH 
     clear HO
     replace c3:=eq_true c3
     replace c4:=eq_true c4
     go_wp2_with (first | ((with_reducible refine gate_store (t:=3) (p:=16) rfl ?_);refine store_event (t:=3) (p:=16) (v:=?vo_wz1) (w1:=(wr.setCell ⟨go,x5.toNat * 3,none⟩ (.int .i64 x1))) ?hg ?ho ?hn ?hr ?_;(case ho=>rfl);(case hg=>rfl);(case hn=>rfl);(case hr=>first | (go_simp;done) | (go_simp;rfl));intro wz1 hw;have hp_:=Deep.H_put HH.out hp0.out hq0.out 0 (.int .i64 x1) (by decide) rfl;have hg:wr.grownBy wz1 (some go):=(by rw[hw];exact hp_.2);have n0_:=aM (show Kd.H k170 170 wz1 w0.heap.size P0_ (.slice (some ⟨go,0,none⟩) x0.length co) x0 x5 oki [.int .i64 x1,.int .i64 (rd_T170 x0 x5).f1,.int .i64 (rd_T170 x0 x5).f2] from by rw[hw];exact hp_.1);have n1_:=aM (show Below w0.heap.size w0 wz1 from by rw[hw];exact below_set HB.out GB.out);have n2_:=aM (Kept.of_grown (S:=(fun k_=>P0_ k_)) hg HK.out (fun k_ e_ => .inl ((Option.some.inj e_) ▸ HM.out)));clear HH HB HK hp_ hg hw;have HH:=n0_;have HB:=n1_;have HK:=n2_;clear n0_ n1_ n2_;have hx1:wz1.cell? ⟨go,x5.toNat * 3+1,none⟩=some (.int .i64 (rd_T170 x0 x5).f1):=(Deep.H_facts HH.out hp0.out hq0.out).1 1 _ rfl;have hz1:wz1.frozen? ⟨go,x5.toNat * 3+1,none⟩=false:=(Deep.H_facts HH.out hp0.out hq0.out).2 1) | ((with_reducible refine gate_store (t:=3) (p:=23) rfl ?_);refine store_event (t:=3) (p:=23) (v:=?vo_wz2) (w1:=(wz1.setCell ⟨go,x5.toNat * 3+1,none⟩ (.int .i64 (wrap64 (x1+1))))) ?hg ?ho ?hn ?hr ?_;(case ho=>rfl);(case hg=>rfl);(case hn=>rfl);(case hr=>first | (go_simp;done) | (go_simp;rfl));intro wz2 hw;have hp_:=Deep.H_put HH.out hp0.out hq0.out 1 (.int .i64 (wrap64 (x1+1))) (by decide) rfl;have hg:wz1.grownBy wz2 (some go):=(by rw[hw];exact hp_.2);have n0_:=aM (show Kd.H k170 170 wz2 w0.heap.size P0_ (.slice (some ⟨go,0,none⟩) x0.length co) x0 x5 oki [.int .i64 x1,.int .i64 (wrap64 (x1+1)),.int .i64 (rd_T170 x0 x5).f2] from by rw[hw];exact hp_.1);have n1_:=aM (show Below w0.heap.size w0 wz2 from by rw[hw];exact below_set HB.out GB.out);have n2_:=aM (Kept.of_grown (S:=(fun k_=>P0_ k_)) hg HK.out (fun k_ e_ => .inl ((Option.some.inj e_) ▸ HM.out)));clear HH HB HK hp_ hg hw;have HH:=n0_;have HB:=n1_;have HK:=n2_;clear n0_ n1_ n2_;have hx2:wz2.cell? ⟨go,x5.toNat * 3+2,none⟩=some (.int .i64 (rd_T170 x0 x5).f2):=(Deep.H_facts HH.out hp0.out hq0.out).1 2 _ rfl;have hz2:wz2.frozen? ⟨go,x5.toNat * 3+2,none⟩=false:=(Deep.H_facts HH.out hp0.out hq0.out).2 2) | ((with_reducible refine gate_store (t:=3) (p:=30) rfl ?_);refine store_event (t:=3) (p:=30) (v:=?vo_wz3) (w1:=(wz2.setCell ⟨go,x5.toNat * 3+2,none⟩ (.int .i64 (wrap64 ((wrap64 (x1+1))+1))))) ?hg ?ho ?hn ?hr ?_;(case ho=>rfl);(case hg=>rfl);(case hn=>rfl);(case hr=>first | (go_simp;done) | (go_simp;rfl));intro wz3 hw;have hp_:=Deep.H_put HH.out hp0.out hq0.out 2 (.int .i64 (wrap64 ((wrap64 (x1+1))+1))) (by decide) rfl;have hg:wz2.grownBy wz3 (some go):=(by rw[hw];exact hp_.2);have n0_:=aM (show Kd.H k170 170 wz3 w0.heap.size P0_ (.slice (some ⟨go,0,none⟩) x0.length co) x0 x5 oki [.int .i64 x1,.int .i64 (wrap64 (x1+1)),.int .i64 (wrap64 ((wrap64 (x1+1))+1))] from by rw[hw];exact hp_.1);have n1_:=aM (show Below w0.heap.size w0 wz3 from by rw[hw];exact below_set HB.out GB.out);have n2_:=aM (Kept.of_grown (S:=(fun k_=>P0_ k_)) hg HK.out (fun k_ e_ => .inl ((Option.some.inj e_) ▸ HM.out)));clear HH HB HK hp_ hg hw;have HH:=n0_;have HB:=n1_;have HK:=n2_;clear n0_ n1_ n2_))
     go_roundg k1
     case measure=>have:=HK1.out;omega
     case rel=>exact⟨(x0.set (x5:Int).toNat (⟨x1,wrap64 (x1+1),wrap64 ((wrap64 (x1+1))+1)⟩:S170)),(wrap64 ((wrap64 ((wrap64 (x1+1))+1))+1)),(wrap64 (x5+1)),(by first | rfl | (simp;done) | (simp[*];done)),(by first | rfl | (simp;done) | (simp[*];done)),H',⟨by have:=HK1.out;omega⟩,⟨Kd.H_back HH.out (k170_mkM _ _ _ (⟨x1,wrap64 (x1+1),wrap64 ((wrap64 (x1+1))+1)⟩:S170) ) (fun _ hk_=>hk_)⟩,HK,HB⟩
    ·rw[if_neg c4] at H
     exact absurd H (by simp)
   ·rw[if_neg c3] at H
    have c3b0:decide (x5<(x0.length:Int))=false:=decide_eq_false c3
    clear c3
    simp only[Option.some.injEq,Prod.mk.injEq] at H
    obtain⟨rfl,rfl⟩:=H
    obtain⟨Ao,co,eo⟩:=Kd.S_slice HO.out
    subst eo
    go_wp2
    go_ret
    exact⟨by first | rfl | (simp[errW_none,errW_some]<;>rfl),Kd.S_R HO.out,HB.out,HK.out⟩
def Xr.l0:Nat→List (S200)→Int→Int→Option (Int × (List (S200)))
 | 0,_,_,_=>none
 | k+1,x0,x1,x5=>if x5<(x0.length:Int) then (if 0≤x5 then (Xr.l0 k (x0.set (x5:Int).toNat (⟨x1,wrap64 (x1+1),wrap64 ((wrap64 (x1+1))+1)⟩:S200)) (wrap64 ((wrap64 ((wrap64 (x1+1))+1))+1)) (wrap64 (x5+1))) else (none)) else (some (x1,x0))
def Xr.f (k:Nat) (l0:List (S200)) (a1:Int):Option (Int × (List (S200))):=Xr.l0 k l0 a1 0
theorem Xr.calls (k:Nat) (P0_:Nat→Prop) (u9000_:Value) (l0:List (S200)) (a1:Int) (r1:Int) (r2:List (S200)) (w0 w:World) (hB:Below w0.heap.size w0 w) (ho0:Kd.R k200 200 w w0.heap.size P0_ u9000_ l0) (h:Xr.f k l0 a1=some (r1,r2)) :
  Calls Try.prog 174 #[u9000_,.int .i64 a1] w fun e w'=>e = .returned (.int .i64 r1)∧Kd.R k200 200 w' w0.heap.size P0_ u9000_ r2∧Below w0.heap.size w0 w'∧Kept w w' (fun k_=>P0_ k_):=by
 have HO0:=Aside0.mk (Deep.S_flat rfl ho0)
 have HK:=aM (Kept.refl w (fun k_=>P0_ k_))
 have HB:=Aside0.mk hB
 clear hB ho0
 have H':=aM (show Xr.l0 k l0 a1 0=some (r1,r2) from h)
 clear h
 go_enter Try.func174,Try.ntmps174
 go_wp2
 go_loopg [1,5] k (fun kq v1 v5 w'=>∃ (x0:List (S200)) (x1:Int) (x5:Int),v1 = .int .i64 x1∧v5 = .int .i64 x5∧Aside0 (Xr.l0 kq x0 x1 x5=some (r1,r2))∧Aside0 (kq≤k)∧Aside0 (Kd.S k200 200 w' w0.heap.size P0_ u9000_ x0)∧Aside0 (Kept w w' (fun k_=>P0_ k_))∧Aside0 (Below w0.heap.size w0 w'))
 case atStart=>exact⟨l0,a1,0,(by first | rfl | (simp;done) | (simp[*];done)),(by first | rfl | (simp;done) | (simp[*];done)),H',⟨Nat.le_refl _⟩,HO0,HK,HB⟩
 case round =>
  clear H'
  try clear p2
  obtain⟨x0,x1,x5,rfl,rfl,HA,HK1,HO,HK,HB⟩:=hrel
  cases gk with
  | zero=>exact absurd HA.out (by simp[Xr.l0])
  | succ k1 =>
   have H:=HA.out
   clear HA
   simp only[Xr.l0] at H
   by_cases c3:x5<(x0.length:Int)
   ·rw[if_pos c3] at H
    have hq0:=Aside0.mk c3
    have c3b0:decide (x5<(x0.length:Int))=true:=decide_eq_true c3
    by_cases c4:0≤x5
    ·rw[if_pos c4] at H
     have hp0:=Aside0.mk c4
     have c4b0:decide (0≤x5)=true:=decide_eq_true c4
     have H':=Aside0.mk H
     clear H
     obtain⟨go,co,eo,gb,gl,cl,HG⟩:=Kd.S_form HO.out (by omega)
     subst eo
     have GB:=Aside0.mk gb
     clear gb gl HG
     have HM:=aM (show P0_ go from ((Kd.S_R HO.out).1 _ rfl))
     obtain⟨oki,ce,hcl,hM,hcc,hfr,hoki,hH⟩:=Kd.S_elem HO.out z200 x5 c4 c3
     obtain rfl:=k200_openM hM
     have hok:=Aside0.mk hoki
     have HH:=Aside0.mk hH
     have hx0:wr.cell? ⟨go,x5.toNat * 3,none⟩=some (.int .i64 (rd_T200 x0 x5).f0):=(Deep.H_facts HH.out hp0.out hq0.out).1 0 _ rfl
     have hz0:wr.frozen? ⟨go,x5.toNat * 3,none⟩=false:=(Deep.H_facts HH.out hp0.out hq0.out).2 0
     clear hcl hM hcc hfr hoki hH 
     clear HO
     replace c3:=eq_true c3
     replace c4:=eq_true c4
     go_wp2_with (first | ((with_reducible refine gate_store (t:=3) (p:=16) rfl ?_);refine store_event (t:=3) (p:=16) (v:=?vo_wz1) (w1:=(wr.setCell ⟨go,x5.toNat * 3,none⟩ (.int .i64 x1))) ?hg ?ho ?hn ?hr ?_;(case ho=>rfl);(case hg=>rfl);(case hn=>rfl);(case hr=>first | (go_simp;done) | (go_simp;rfl));intro wz1 hw;have hp_:=Deep.H_put HH.out hp0.out hq0.out 0 (.int .i64 x1) (by decide) rfl;have hg:wr.grownBy wz1 (some go):=(by rw[hw];exact hp_.2);have n0_:=aM (show Kd.H k200 200 wz1 w0.heap.size P0_ (.slice (some ⟨go,0,none⟩) x0.length co) x0 x5 oki [.int .i64 x1,.int .i64 (rd_T200 x0 x5).f1,.int .i64 (rd_T200 x0 x5).f2] from by rw[hw];exact hp_.1);have n1_:=aM (show Below w0.heap.size w0 wz1 from by rw[hw];exact below_set HB.out GB.out);have n2_:=aM (Kept.of_grown (S:=(fun k_=>P0_ k_)) hg HK.out (fun k_ e_ => .inl ((Option.some.inj e_) ▸ HM.out)));clear HH HB HK hp_ hg hw;have HH:=n0_;have HB:=n1_;have HK:=n2_;clear n0_ n1_ n2_;have hx1:wz1.cell? ⟨go,x5.toNat * 3+1,none⟩=some (.int .i64 (rd_T200 x0 x5).f1):=(Deep.H_facts HH.out hp0.out hq0.out).1 1 _ rfl;have hz1:wz1.frozen? ⟨go,x5.toNat * 3+1,none⟩=false:=(Deep.H_facts HH.out hp0.out hq0.out).2 1) | ((with_reducible refine gate_store (t:=3) (p:=23) rfl ?_);refine store_event (t:=3) (p:=23) (v:=?vo_wz2) (w1:=(wz1.setCell ⟨go,x5.toNat * 3+1,none⟩ (.int .i64 (wrap64 (x1+1))))) ?hg ?ho ?hn ?hr ?_;(case ho=>rfl);(case hg=>rfl);(case hn=>rfl);(case hr=>first | (go_simp;done) | (go_simp;rfl));intro wz2 hw;have hp_:=Deep.H_put HH.out hp0.out hq0.out 1 (.int .i64 (wrap64 (x1+1))) (by decide) rfl;have hg:wz1.grownBy wz2 (some go):=(by rw[hw];exact hp_.2);have n0_:=aM (show Kd.H k200 200 wz2 w0.heap.size P0_ (.slice (some ⟨go,0,none⟩) x0.length co) x0 x5 oki [.int .i64 x1,.int .i64 (wrap64 (x1+1)),.int .i64 (rd_T200 x0 x5).f2] from by rw[hw];exact hp_.1);have n1_:=aM (show Below w0.heap.size w0 wz2 from by rw[hw];exact below_set HB.out GB.out);have n2_:=aM (Kept.of_grown (S:=(fun k_=>P0_ k_)) hg HK.out (fun k_ e_ => .inl ((Option.some.inj e_) ▸ HM.out)));clear HH HB HK hp_ hg hw;have HH:=n0_;have HB:=n1_;have HK:=n2_;clear n0_ n1_ n2_;have hx2:wz2.cell? ⟨go,x5.toNat * 3+2,none⟩=some (.int .i64 (rd_T200 x0 x5).f2):=(Deep.H_facts HH.out hp0.out hq0.out).1 2 _ rfl;have hz2:wz2.frozen? ⟨go,x5.toNat * 3+2,none⟩=false:=(Deep.H_facts HH.out hp0.out hq0.out).2 2) | ((with_reducible refine gate_store (t:=3) (p:=30) rfl ?_);refine store_event (t:=3) (p:=30) (v:=?vo_wz3) (w1:=(wz2.setCell ⟨go,x5.toNat * 3+2,none⟩ (.int .i64 (wrap64 ((wrap64 (x1+1))+1))))) ?hg ?ho ?hn ?hr ?_;(case ho=>rfl);(case hg=>rfl);(case hn=>rfl);(case hr=>first | (go_simp;done) | (go_simp;rfl));intro wz3 hw;have hp_:=Deep.H_put HH.out hp0.out hq0.out 2 (.int .i64 (wrap64 ((wrap64 (x1+1))+1))) (by decide) rfl;have hg:wz2.grownBy wz3 (some go):=(by rw[hw];exact hp_.2);have n0_:=aM (show Kd.H k200 200 wz3 w0.heap.size P0_ (.slice (some ⟨go,0,none⟩) x0.length co) x0 x5 oki [.int .i64 x1,.int .i64 (wrap64 (x1+1)),.int .i64 (wrap64 ((wrap64 (x1+1))+1))] from by rw[hw];exact hp_.1);have n1_:=aM (show Below w0.heap.size w0 wz3 from by rw[hw];exact below_set HB.out GB.out);have n2_:=aM (Kept.of_grown (S:=(fun k_=>P0_ k_)) hg HK.out (fun k_ e_ => .inl ((Option.some.inj e_) ▸ HM.out)));clear HH HB HK hp_ hg hw;have HH:=n0_;have HB:=n1_;have HK:=n2_;clear n0_ n1_ n2_))
     go_roundg k1
     case measure=>have:=HK1.out;omega
     case rel=>exact⟨(x0.set (x5:Int).toNat (⟨x1,wrap64 (x1+1),wrap64 ((wrap64 (x1+1))+1)⟩:S200)),(wrap64 ((wrap64 ((wrap64 (x1+1))+1))+1)),(wrap64 (x5+1)),(by first | rfl | (simp;done) | (simp[*];done)),(by first | rfl | (simp;done) | (simp[*];done)),H',⟨by have:=HK1.out;omega⟩,⟨Kd.H_back HH.out (k200_mkM _ _ _ (⟨x1,wrap64 (x1+1),wrap64 ((wrap64 (x1+1))+1)⟩:S200) ) (fun _ hk_=>hk_)⟩,HK,HB⟩
    ·rw[if_neg c4] at H
     exact absurd H (by simp)
   ·rw[if_neg c3] at H
    have c3b0:decide (x5<(x0.length:Int))=false:=decide_eq_false c3
    clear c3
    simp only[Option.some.injEq,Prod.mk.injEq] at H
    obtain⟨rfl,rfl⟩:=H
    obtain⟨Ao,co,eo⟩:=Kd.S_slice HO.out
    subst eo
    go_wp2
    go_ret
    exact⟨by first | rfl | (simp[errW_none,errW_some]<;>rfl),Kd.S_R HO.out,HB.out,HK.out⟩
def XH.l0:Nat→List (S56)→Int→Int→Option (Int × (List (S56)))
 | 0,_,_,_=>none
 | k+1,x0,x1,x5=>if x5<(x0.length:Int) then (if 0≤x5 then (XH.l0 k (x0.set (x5:Int).toNat (⟨x1,wrap64 (x1+1),wrap64 ((wrap64 (x1+1))+1)⟩:S56)) (wrap64 ((wrap64 ((wrap64 (x1+1))+1))+1)) (wrap64 (x5+1))) else (none)) else (some (x1,x0))
def XH.f (k:Nat) (l0:List (S56)) (a1:Int):Option (Int × (List (S56))):=XH.l0 k l0 a1 0
theorem XH.calls (k:Nat) (P0_:Nat→Prop) (u9000_:Value) (l0:List (S56)) (a1:Int) (r1:Int) (r2:List (S56)) (w0 w:World) (hB:Below w0.heap.size w0 w) (ho0:Kd.R k56 56 w w0.heap.size P0_ u9000_ l0) (h:XH.f k l0 a1=some (r1,r2)) :
  Calls Try.prog 149 #[u9000_,.int .i64 a1] w fun e w'=>e = .returned (.int .i64 r1)∧Kd.R k56 56 w' w0.heap.size P0_ u9000_ r2∧Below w0.heap.size w0 w'∧Kept w w' (fun k_=>P0_ k_):=by
 have HO0:=Aside0.mk (Deep.S_flat rfl ho0)
 have HK:=aM (Kept.refl w (fun k_=>P0_ k_))
 have HB:=Aside0.mk hB
 clear hB ho0
 have H':=aM (show XH.l0 k l0 a1 0=some (r1,r2) from h)
 clear h
 go_enter Try.func149,Try.ntmps149
 go_wp2
 go_loopg [1,5] k (fun kq v1 v5 w'=>∃ (x0:List (S56)) (x1:Int) (x5:Int),v1 = .int .i64 x1∧v5 = .int .i64 x5∧Aside0 (XH.l0 kq x0 x1 x5=some (r1,r2))∧Aside0 (kq≤k)∧Aside0 (Kd.S k56 56 w' w0.heap.size P0_ u9000_ x0)∧Aside0 (Kept w w' (fun k_=>P0_ k_))∧Aside0 (Below w0.heap.size w0 w'))
 case atStart=>exact⟨l0,a1,0,(by first | rfl | (simp;done) | (simp[*];done)),(by first | rfl | (simp;done) | (simp[*];done)),H',⟨Nat.le_refl _⟩,HO0,HK,HB⟩
 case round =>
  clear H'
  try clear p2
  obtain⟨x0,x1,x5,rfl,rfl,HA,HK1,HO,HK,HB⟩:=hrel
  cases gk with
  | zero=>exact absurd HA.out (by simp[XH.l0])
  | succ k1 =>
   have H:=HA.out
   clear HA
   simp only[XH.l0] at H
   by_cases c3:x5<(x0.length:Int)
   ·rw[if_pos c3] at H
    have hq0:=Aside0.mk c3
    have c3b0:decide (x5<(x0.length:Int))=true:=decide_eq_true c3
    by_cases c4:0≤x5
    ·rw[if_pos c4] at H
     have hp0:=Aside0.mk c4
     have c4b0:decide (0≤x5)=true:=decide_eq_true c4
     have H':=Aside0.mk H
     clear H
     obtain⟨go,co,eo,gb,gl,cl,HG⟩:=Kd.S_form HO.out (by omega)
     subst eo
     have GB:=Aside0.mk gb
     clear gb gl HG
     have HM:=aM (show P0_ go from ((Kd.S_R HO.out).1 _ rfl))
     obtain⟨oki,ce,hcl,hM,hcc,hfr,hoki,hH⟩:=Kd.S_elem HO.out z56 x5 c4 c3
     obtain rfl:=k56_openM hM
     have hok:=Aside0.mk hoki
     have HH:=Aside0.mk hH
     have hx0:wr.cell? ⟨go,x5.toNat * 3,none⟩=some (.int .i64 (rd_T56 x0 x5).f0):=(Deep.H_facts HH.out hp0.out hq0.out).1 0 _ rfl
     have hz0:wr.frozen? ⟨go,x5.toNat * 3,none⟩=false:=(Deep.H_facts HH.out hp0.out hq0.out).2 0
     clear hcl hM hcc hfr hoki hH 
     clear HO
     replace c3:=eq_true c3
     replace c4:=eq_true c4
     go_wp2_with (first | ((with_reducible refine gate_store (t:=3) (p:=16) rfl ?_);refine store_event (t:=3) (p:=16) (v:=?vo_wz1) (w1:=(wr.setCell ⟨go,x5.toNat * 3,none⟩ (.int .i64 x1))) ?hg ?ho ?hn ?hr ?_;(case ho=>rfl);(case hg=>rfl);(case hn=>rfl);(case hr=>first | (go_simp;done) | (go_simp;rfl));intro wz1 hw;have hp_:=Deep.H_put HH.out hp0.out hq0.out 0 (.int .i64 x1) (by decide) rfl;have hg:wr.grownBy wz1 (some go):=(by rw[hw];exact hp_.2);have n0_:=aM (show Kd.H k56 56 wz1 w0.heap.size P0_ (.slice (some ⟨go,0,none⟩) x0.length co) x0 x5 oki [.int .i64 x1,.int .i64 (rd_T56 x0 x5).f1,.int .i64 (rd_T56 x0 x5).f2] from by rw[hw];exact hp_.1);have n1_:=aM (show Below w0.heap.size w0 wz1 from by rw[hw];exact below_set HB.out GB.out);have n2_:=aM (Kept.of_grown (S:=(fun k_=>P0_ k_)) hg HK.out (fun k_ e_ => .inl ((Option.some.inj e_) ▸ HM.out)));clear HH HB HK hp_ hg hw;have HH:=n0_;have HB:=n1_;have HK:=n2_;clear n0_ n1_ n2_;have hx1:wz1.cell? ⟨go,x5.toNat * 3+1,none⟩=some (.int .i64 (rd_T56 x0 x5).f1):=(Deep.H_facts HH.out hp0.out hq0.out).1 1 _ rfl;have hz1:wz1.frozen? ⟨go,x5.toNat * 3+1,none⟩=false:=(Deep.H_facts HH.out hp0.out hq0.out).2 1) | ((with_reducible refine gate_store (t:=3) (p:=23) rfl ?_);refine store_event (t:=3) (p:=23) (v:=?vo_wz2) (w1:=(wz1.setCell ⟨go,x5.toNat * 3+1,none⟩ (.int .i64 (wrap64 (x1+1))))) ?hg ?ho ?hn ?hr ?_;(case ho=>rfl);(case hg=>rfl);(case hn=>rfl);(case hr=>first | (go_simp;done) | (go_simp;rfl));intro wz2 hw;have hp_:=Deep.H_put HH.out hp0.out hq0.out 1 (.int .i64 (wrap64 (x1+1))) (by decide) rfl;have hg:wz1.grownBy wz2 (some go):=(by rw[hw];exact hp_.2);have n0_:=aM (show Kd.H k56 56 wz2 w0.heap.size P0_ (.slice (some ⟨go,0,none⟩) x0.length co) x0 x5 oki [.int .i64 x1,.int .i64 (wrap64 (x1+1)),.int .i64 (rd_T56 x0 x5).f2] from by rw[hw];exact hp_.1);have n1_:=aM (show Below w0.heap.size w0 wz2 from by rw[hw];exact below_set HB.out GB.out);have n2_:=aM (Kept.of_grown (S:=(fun k_=>P0_ k_)) hg HK.out (fun k_ e_ => .inl ((Option.some.inj e_) ▸ HM.out)));clear HH HB HK hp_ hg hw;have HH:=n0_;have HB:=n1_;have HK:=n2_;clear n0_ n1_ n2_;have hx2:wz2.cell? ⟨go,x5.toNat * 3+2,none⟩=some (.int .i64 (rd_T56 x0 x5).f2):=(Deep.H_facts HH.out hp0.out hq0.out).1 2 _ rfl;have hz2:wz2.frozen? ⟨go,x5.toNat * 3+2,none⟩=false:=(Deep.H_facts HH.out hp0.out hq0.out).2 2) | ((with_reducible refine gate_store (t:=3) (p:=30) rfl ?_);refine store_event (t:=3) (p:=30) (v:=?vo_wz3) (w1:=(wz2.setCell ⟨go,x5.toNat * 3+2,none⟩ (.int .i64 (wrap64 ((wrap64 (x1+1))+1))))) ?hg ?ho ?hn ?hr ?_;(case ho=>rfl);(case hg=>rfl);(case hn=>rfl);(case hr=>first | (go_simp;done) | (go_simp;rfl));intro wz3 hw;have hp_:=Deep.H_put HH.out hp0.out hq0.out 2 (.int .i64 (wrap64 ((wrap64 (x1+1))+1))) (by decide) rfl;have hg:wz2.grownBy wz3 (some go):=(by rw[hw];exact hp_.2);have n0_:=aM (show Kd.H k56 56 wz3 w0.heap.size P0_ (.slice (some ⟨go,0,none⟩) x0.length co) x0 x5 oki [.int .i64 x1,.int .i64 (wrap64 (x1+1)),.int .i64 (wrap64 ((wrap64 (x1+1))+1))] from by rw[hw];exact hp_.1);have n1_:=aM (show Below w0.heap.size w0 wz3 from by rw[hw];exact below_set HB.out GB.out);have n2_:=aM (Kept.of_grown (S:=(fun k_=>P0_ k_)) hg HK.out (fun k_ e_ => .inl ((Option.some.inj e_) ▸ HM.out)));clear HH HB HK hp_ hg hw;have HH:=n0_;have HB:=n1_;have HK:=n2_;clear n0_ n1_ n2_))
     go_roundg k1
     case measure=>have:=HK1.out;omega
     case rel=>exact⟨(x0.set (x5:Int).toNat (⟨x1,wrap64 (x1+1),wrap64 ((wrap64 (x1+1))+1)⟩:S56)),(wrap64 ((wrap64 ((wrap64 (x1+1))+1))+1)),(wrap64 (x5+1)),(by first | rfl | (simp;done) | (simp[*];done)),(by first | rfl | (simp;done) | (simp[*];done)),H',⟨by have:=HK1.out;omega⟩,⟨Kd.H_back HH.out (k56_mkM _ _ _ (⟨x1,wrap64 (x1+1),wrap64 ((wrap64 (x1+1))+1)⟩:S56) ) (fun _ hk_=>hk_)⟩,HK,HB⟩
    ·rw[if_neg c4] at H
     exact absurd H (by simp)
   ·rw[if_neg c3] at H
    have c3b0:decide (x5<(x0.length:Int))=false:=decide_eq_false c3
    clear c3
    simp only[Option.some.injEq,Prod.mk.injEq] at H
    obtain⟨rfl,rfl⟩:=H
    obtain⟨Ao,co,eo⟩:=Kd.S_slice HO.out
    subst eo
    go_wp2
    go_ret
    exact⟨by first | rfl | (simp[errW_none,errW_some]<;>rfl),Kd.S_R HO.out,HB.out,HK.out⟩
end Go.Proofs.Yteamagejhbkhnaa.P
