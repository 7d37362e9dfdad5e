/- A part of the proof of the law FnExactTold: texts of this seat, merged (words, printed functions of the program, plain lemmas). Conditions: none of its own. -/
import Derived.Test.YteamagejhbkhnaaPkFnExactTold7
set_option linter.unusedSimpArgs false
set_option linter.unusedVariables false
set_option maxHeartbeats 8000000
set_option maxRecDepth 100000
namespace Go.Proofs.Yteamagejhbkhnaa.P
open Go.Proofs.YteamagejhbkhnaaZ Go.RowKit Go.Proofs.YteamagejhbkhnaaW.PrintWords Go.Proofs.YteamagejhbkhnaaW.PrintLast Go.Proofs.YteamagejhbkhnaaW.PrintMore
attribute [local go_sem] max2_int min2_int max_two min_two max_three min_three max_four min_four   -- for this text's walks alone
def XR.f (k:Nat) (a0_0:Int) (l0_1:List Int) (a1_0:Int) (l1_1:List Int):Option (Bool):=if a0_0=a1_0 then ((Xp.f k l0_1 l1_1).bind fun t103=>(if t103=true then (some true) else (some false))) else (some false)
theorem XR.calls (k:Nat) (a0_0:Int) (A0_1:Option Addr) (c0_1:Nat) (l0_1:List Int) (a1_0:Int) (A1_1:Option Addr) (c1_1:Nat) (l1_1:List Int) (r:Bool) (w:World) (hr0_1:Kd.C (Kd.int .i64) w A0_1 l0_1.length l0_1) (hc0_1:l0_1.length≤c0_1) (hr1_1:Kd.C (Kd.int .i64) w A1_1 l1_1.length l1_1) (hc1_1:l1_1.length≤c1_1) (h:XR.f k a0_0 l0_1 a1_0 l1_1=some r) :
  Calls Try.prog 106 #[.agg #[.int .i64 a0_0,.slice A0_1 l0_1.length c0_1],.agg #[.int .i64 a1_0,.slice A1_1 l1_1.length c1_1]] w fun e w'=>e = .returned (.bool r)∧Below w.heap.size w w':=by
 have hu57:=Try.underlying57
 have HR0_1:=Aside0.mk hr0_1
 have HC0_1:=Aside0.mk hc0_1
 clear hr0_1 hc0_1
 have HR1_1:=Aside0.mk hr1_1
 have HC1_1:=Aside0.mk hc1_1
 clear hr1_1 hc1_1
 have HB:=Aside0.mk (Below.refl w.heap.size w)
 have H:=h
 unfold XR.f at H
 clear h
 go_enter Try.func106,Try.ntmps106
 go_wp2_with (first | ((with_reducible refine gate_dst (N:=2) rfl ?_);refine boxE 2 #[.int .i64 a0_0,.slice A0_1 l0_1.length c0_1] 57 ?_;intro gbz1 hg wz1 hbox hb;have BKz1:=Aside0.mk (hbox);have GWz1:=Aside0.mk (gX' hg (hX HB.out));have GEz1:=Aside0.mk (gX' hg (hX HB.out));replace HB:=Aside0.mk (below_step (hX HB.out) hb);clear hb hbox hg) | ((with_reducible refine gate_dst (N:=3) rfl ?_);refine boxE 3 #[.int .i64 a1_0,.slice A1_1 l1_1.length c1_1] 57 ?_;intro gbz2 hg wz2 hbox hb;have BKz2:=Aside0.mk (hbox);have GWz2:=Aside0.mk (gX' hg (hX HB.out));have GEz2:=Aside0.mk (gX' hg (hX HB.out));have NBz1:=Aside0.mk (gL hg (bX BKz1.out));have NBz2:=Aside0.mk (gG hg (bX BKz1.out));replace BKz1:=Aside0.mk (blk_below (bX BKz1.out) hb);replace HB:=Aside0.mk (below_step (hX HB.out) hb);clear hb hbox hg;have hnbz1:=NBz1.out;have hncz1:=NBz2.out;obtain⟨hczz1,hczz2,hfzz1,hfzz2⟩:=cZ2 BKz1.out;obtain⟨hczz3,hczz4,hfzz3,hfzz4⟩:=cZ2 BKz2.out;refine Stop.out ?_))
 refine⟨?_⟩
 by_cases c3:a0_0=a1_0
 ·rw[if_pos c3] at H
  obtain⟨c3b0,c3b1⟩:=eqT c3
  clear c3
  replace H:=bE H;obtain⟨t103,A4,H⟩:=H
  by_cases c5:t103=true
  ·subst c5
   rw[if_pos rfl] at H
   obtain rfl:=Option.some.inj H
   go_wp2_with (first | ((with_reducible refine gate_callee (f:=17) rfl ?_);refine goesM 17 14 Try.func17 #[.slice A0_1 l0_1.length c0_1,.slice A1_1 l1_1.length c1_1] ?_;refine(Xp.calls k _ _ l0_1 _ _ l1_1 true _ (cC HR0_1.out HB.out) HC0_1.out (cC HR1_1.out HB.out) HC1_1.out A4.out).mono ?_;rintro e w' ⟨rfl,⟨nd,rfl⟩⟩;refine⟨_,rfl,?_⟩))
   go_ret
   exact⟨rE,(hX HB.out)⟩
  ·replace c5:=Bool.eq_false_iff.mpr c5
   subst c5
   rw[if_neg nft] at H
   obtain rfl:=Option.some.inj H
   go_wp2_with (first | ((with_reducible refine gate_callee (f:=17) rfl ?_);refine goesM 17 14 Try.func17 #[.slice A0_1 l0_1.length c0_1,.slice A1_1 l1_1.length c1_1] ?_;refine(Xp.calls k _ _ l0_1 _ _ l1_1 false _ (cC HR0_1.out HB.out) HC0_1.out (cC HR1_1.out HB.out) HC1_1.out A4.out).mono ?_;rintro e w' ⟨rfl,⟨nd,rfl⟩⟩;refine⟨_,rfl,?_⟩))
   go_ret
   exact⟨rE,(hX HB.out)⟩
 ·rw[if_neg c3] at H
  obtain⟨c3b0,c3b1⟩:=eqF c3
  obtain rfl:=Option.some.inj H
  go_wp2
  go_ret
  exact⟨rE,(hX HB.out)⟩
def XS.f (a0_0:Int) (l0_1:List Int) (a1:Int):Option (Int):=(XM.f l0_1 a1).bind fun t102=>(if t102<0 then (some (-1)) else (some t102))
theorem XS.calls (a0_0:Int) (A0_1:Option Addr) (c0_1:Nat) (l0_1:List Int) (a1:Int) (r:Int) (w:World) (hr0_1:Kd.C (Kd.int .i64) w A0_1 l0_1.length l0_1) (hc0_1:l0_1.length≤c0_1) (h:XS.f a0_0 l0_1 a1=some r) :
  Calls Try.prog 102 #[.agg #[.int .i64 a0_0,.slice A0_1 l0_1.length c0_1],.int .i64 a1] w fun e w'=>e = .returned (.int .i64 r)∧Below w.heap.size w w':=by
 have hu51:=Try.underlying51
 have HR0_1:=Aside0.mk hr0_1
 have HC0_1:=Aside0.mk hc0_1
 clear hr0_1 hc0_1
 have HB:=Aside0.mk (Below.refl w.heap.size w)
 have H:=h
 unfold XS.f at H
 clear h
 replace H:=bE H;obtain⟨t102,A3,H⟩:=H
 go_enter Try.func102,Try.ntmps102
 go_wp2_with (first | ((with_reducible refine gate_dst (N:=2) rfl ?_);refine boxE 2 #[.int .i64 a0_0,.slice A0_1 l0_1.length c0_1] 51 ?_;intro gbz1 hg wz1 hbox hb;have BKz1:=Aside0.mk (hbox);have GWz1:=Aside0.mk (gX' hg (hX HB.out));have GEz1:=Aside0.mk (gX' hg (hX HB.out));replace HB:=Aside0.mk (below_step (hX HB.out) hb);clear hb hbox hg;obtain⟨hczz1,hczz2,hfzz1,hfzz2⟩:=cZ2 BKz1.out) | ((with_reducible refine gate_callee (f:=107) rfl ?_);refine goesM 107 8 Try.func107 #[.slice A0_1 l0_1.length c0_1,.int .i64 a1] ?_;refine(XM.calls _ _ l0_1 a1 t102 _ (cC HR0_1.out HB.out) HC0_1.out A3.out).mono ?_;rintro e w' ⟨rfl,⟨nd,rfl⟩⟩;refine⟨_,rfl,?_⟩;refine Stop.out ?_))
 refine⟨?_⟩
 by_cases c4:t102<0
 ·rw[if_pos c4] at H
  have c4b0:=decide_eq_true c4
  clear c4
  obtain rfl:=Option.some.inj H
  go_wp2
  go_ret
  exact⟨rE,(hX HB.out)⟩
 ·rw[if_neg c4] at H
  have c4b0:=decide_eq_false c4
  clear c4
  obtain rfl:=Option.some.inj H
  go_wp2
  go_ret
  exact⟨rE,(hX HB.out)⟩
def XX.f (l0_0:List (S49)) (a0_1:Int) (a0_2:Bool) (l0_3:List (S193)) (l0_4:List (S195)) (a1:Int):Option (Int):=(Xam.f l0_0 a1).bind fun t102=>(if t102<0 then (some (-1)) else ((XQ.f l0_3 t102).bind fun t103=>(if t103<0 then (some (-1)) else ((XN.f l0_4 t103).bind fun t104=>(if t104<0 then (some (-1)) else (some t104))))))
theorem XX.calls (A0_0:Option Addr) (c0_0:Nat) (l0_0:List (S49)) (a0_1:Int) (a0_2:Bool) (A0_3:Option Addr) (c0_3:Nat) (l0_3:List (S193)) (A0_4:Option Addr) (c0_4:Nat) (l0_4:List (S195)) (a1:Int) (r:Int) (w:World) (hr0_0:Kd.C k49 w A0_0 l0_0.length l0_0) (hc0_0:l0_0.length≤c0_0) (hr0_3:Kd.C k193 w A0_3 l0_3.length l0_3) (hc0_3:l0_3.length≤c0_3) (hr0_4:Kd.C k195 w A0_4 l0_4.length l0_4) (hc0_4:l0_4.length≤c0_4) (h:XX.f l0_0 a0_1 a0_2 l0_3 l0_4 a1=some r) :
  Calls Try.prog 140 #[.agg #[.slice A0_0 l0_0.length c0_0,.int .i64 a0_1,.bool a0_2,.slice A0_3 l0_3.length c0_3,.slice A0_4 l0_4.length c0_4],.int .i64 a1] w fun e w'=>e = .returned (.int .i64 r)∧Below w.heap.size w w':=by
 have hu139:=Try.underlying139
 have HR0_0:=Aside0.mk hr0_0
 have HC0_0:=Aside0.mk hc0_0
 clear hr0_0 hc0_0
 have HR0_3:=Aside0.mk hr0_3
 have HC0_3:=Aside0.mk hc0_3
 clear hr0_3 hc0_3
 have HR0_4:=Aside0.mk hr0_4
 have HC0_4:=Aside0.mk hc0_4
 clear hr0_4 hc0_4
 have HB:=Aside0.mk (Below.refl w.heap.size w)
 have H:=h
 unfold XX.f at H
 clear h
 replace H:=bE H;obtain⟨t102,A3,H⟩:=H
 go_enter Try.func140,Try.ntmps140
 go_wp2_with (first | ((with_reducible refine gate_dst (N:=2) rfl ?_);refine boxE 2 #[.slice A0_0 l0_0.length c0_0,.int .i64 a0_1,.bool a0_2,.slice A0_3 l0_3.length c0_3,.slice A0_4 l0_4.length c0_4] 139 ?_;intro gbz1 hg wz1 hbox hb;have BKz1:=Aside0.mk (hbox);have GWz1:=Aside0.mk (gX' hg (hX HB.out));have GEz1:=Aside0.mk (gX' hg (hX HB.out));replace HB:=Aside0.mk (below_step (hX HB.out) hb);clear hb hbox hg;obtain⟨hczz1,hczz2,hczz3,hczz4,hczz5,hfzz1,hfzz2,hfzz3,hfzz4,hfzz5⟩:=cZ5 BKz1.out) | ((with_reducible refine gate_callee (f:=161) rfl ?_);refine goesM 161 8 Try.func161 #[.slice A0_0 l0_0.length c0_0,.int .i64 a1] ?_;refine(Xam.calls _ _ l0_0 a1 t102 _ (cC HR0_0.out HB.out) HC0_0.out A3.out).mono ?_;rintro e w' ⟨rfl,⟨nd,rfl⟩⟩;refine⟨_,rfl,?_⟩;refine Stop.out ?_))
 refine⟨?_⟩
 by_cases c4:t102<0
 ·rw[if_pos c4] at H
  have c4b0:=decide_eq_true c4
  clear c4
  obtain rfl:=Option.some.inj H
  go_wp2
  go_ret
  exact⟨rE,(hX HB.out)⟩
 ·rw[if_neg c4] at H
  have c4b0:=decide_eq_false c4
  clear c4
  replace H:=bE H;obtain⟨t103,A7,H⟩:=H
  go_wp2_with (first | ((with_reducible refine gate_callee (f:=162) rfl ?_);refine goesM 162 14 Try.func162 #[.slice A0_3 l0_3.length c0_3,.int .i64 t102] ?_;refine(XQ.calls _ _ l0_3 t102 t103 _ (cC HR0_3.out HB.out) HC0_3.out A7.out).mono ?_;rintro e w' ⟨rfl,⟨nd,rfl⟩⟩;refine⟨_,rfl,?_⟩;refine Stop.out ?_))
  refine⟨?_⟩
  by_cases c8:t103<0
  ·rw[if_pos c8] at H
   have c8b0:=decide_eq_true c8
   clear c8
   obtain rfl:=Option.some.inj H
   go_wp2
   go_ret
   exact⟨rE,(hX HB.out)⟩
  ·rw[if_neg c8] at H
   have c8b0:=decide_eq_false c8
   clear c8
   replace H:=bE H;obtain⟨t104,A11,H⟩:=H
   go_wp2_with (first | ((with_reducible refine gate_callee (f:=163) rfl ?_);refine goesM 163 20 Try.func163 #[.slice A0_4 l0_4.length c0_4,.int .i64 t103] ?_;refine(XN.calls _ _ l0_4 t103 t104 _ (cC HR0_4.out HB.out) HC0_4.out A11.out).mono ?_;rintro e w' ⟨rfl,⟨nd,rfl⟩⟩;refine⟨_,rfl,?_⟩;refine Stop.out ?_))
   refine⟨?_⟩
   by_cases c12:t104<0
   ·rw[if_pos c12] at H
    have c12b0:=decide_eq_true c12
    clear c12
    obtain rfl:=Option.some.inj H
    go_wp2
    go_ret
    exact⟨rE,(hX HB.out)⟩
   ·rw[if_neg c12] at H
    have c12b0:=decide_eq_false c12
    clear c12
    obtain rfl:=Option.some.inj H
    go_wp2
    go_ret
    exact⟨rE,(hX HB.out)⟩
def XP.f (l0_0:List Int) (a0_1:Int) (a1:Int):Option (Int):=(XM.f l0_0 a1).bind fun t102=>(if t102<0 then (some (-1)) else (some t102))
theorem XP.calls (A0_0:Option Addr) (c0_0:Nat) (l0_0:List Int) (a0_1:Int) (a1:Int) (r:Int) (w:World) (hr0_0:Kd.C (Kd.int .i64) w A0_0 l0_0.length l0_0) (hc0_0:l0_0.length≤c0_0) (h:XP.f l0_0 a0_1 a1=some r) :
  Calls Try.prog 59 #[.agg #[.slice A0_0 l0_0.length c0_0,.int .i64 a0_1],.int .i64 a1] w fun e w'=>e = .returned (.int .i64 r)∧Below w.heap.size w w':=by
 have hu62:=Try.underlying62
 have HR0_0:=Aside0.mk hr0_0
 have HC0_0:=Aside0.mk hc0_0
 clear hr0_0 hc0_0
 have HB:=Aside0.mk (Below.refl w.heap.size w)
 have H:=h
 unfold XP.f at H
 clear h
 replace H:=bE H;obtain⟨t102,A3,H⟩:=H
 go_enter Try.func59,Try.ntmps59
 go_wp2_with (first | ((with_reducible refine gate_dst (N:=2) rfl ?_);refine boxE 2 #[.slice A0_0 l0_0.length c0_0,.int .i64 a0_1] 62 ?_;intro gbz1 hg wz1 hbox hb;have BKz1:=Aside0.mk (hbox);have GWz1:=Aside0.mk (gX' hg (hX HB.out));have GEz1:=Aside0.mk (gX' hg (hX HB.out));replace HB:=Aside0.mk (below_step (hX HB.out) hb);clear hb hbox hg;obtain⟨hczz1,hczz2,hfzz1,hfzz2⟩:=cZ2 BKz1.out) | ((with_reducible refine gate_callee (f:=107) rfl ?_);refine goesM 107 8 Try.func107 #[.slice A0_0 l0_0.length c0_0,.int .i64 a1] ?_;refine(XM.calls _ _ l0_0 a1 t102 _ (cC HR0_0.out HB.out) HC0_0.out A3.out).mono ?_;rintro e w' ⟨rfl,⟨nd,rfl⟩⟩;refine⟨_,rfl,?_⟩;refine Stop.out ?_))
 refine⟨?_⟩
 by_cases c4:t102<0
 ·rw[if_pos c4] at H
  have c4b0:=decide_eq_true c4
  clear c4
  obtain rfl:=Option.some.inj H
  go_wp2
  go_ret
  exact⟨rE,(hX HB.out)⟩
 ·rw[if_neg c4] at H
  have c4b0:=decide_eq_false c4
  clear c4
  obtain rfl:=Option.some.inj H
  go_wp2
  go_ret
  exact⟨rE,(hX HB.out)⟩
def Xk.l0:Nat→List (S59)→List (S59)→Int→Option ((List (S59)))
 | 0,_,_,_=>none
 | k+1,x0,x3,x4=>if x4<(x0.length:Int) then (if 0≤x4 then (if ((rd_T59 x0 x4).f4) ≥ 0 then ((XJ.f ((rd_T59 x0 x4).f5.f0) ((rd_T59 x0 x4).f5.f1)).bind fun bt106=>(if x3.length<1599289640401 then (Xk.l0 k x0 (x3 ++ [(⟨(rd_T59 x0 x4).f0,(⟨(rd_T59 x0 x4).f1.f0,(rd_T59 x0 x4).f1.f1,(rd_T59 x0 x4).f1.f2⟩:S56),(rd_T59 x0 x4).f2,(rd_T59 x0 x4).f3,(rd_T59 x0 x4).f4,(⟨bt106.1,bt106.2⟩:S57)⟩:S59)]) (wrap64 (x4+1))) else (none))) else (if ((rd_T59 x0 x4).f3) ≥ 0 then ((XJ.f ((rd_T59 x0 x4).f5.f0) ((rd_T59 x0 x4).f5.f1)).bind fun bt113=>(if x3.length<1599289640401 then (Xk.l0 k x0 (x3 ++ [(⟨(rd_T59 x0 x4).f0,(⟨(rd_T59 x0 x4).f1.f0,(rd_T59 x0 x4).f1.f1,(rd_T59 x0 x4).f1.f2⟩:S56),(rd_T59 x0 x4).f2,(rd_T59 x0 x4).f3,(rd_T59 x0 x4).f4,(⟨bt113.1,bt113.2⟩:S57)⟩:S59)]) (wrap64 (x4+1))) else (none))) else (Xk.l0 k x0 x3 (wrap64 (x4+1))))) else (none)) else (some x3)
def Xk.f (k:Nat) (l0:List (S59)):Option ((List (S59))):=Xk.l0 k l0 (([]:List (S59))) 0
theorem Xk.calls (k:Nat) (A0:Option Addr) (c0:Nat) (l0:List (S59)) (r:List (S59)) (w:World) (hr0:Kd.C k59 w A0 l0.length l0) (hc0:l0.length≤c0) (h:Xk.f k l0=some r) :
  Calls Try.prog 108 #[.slice A0 l0.length c0] w fun e w'=>∃ v0_:Value,e = .returned (v0_)∧Kd.S k59 59 w' w.heap.size (fun _=>True) v0_ r∧Below w.heap.size w w':=by
 have hu59:=Try.underlying59
 have hu57:=Try.underlying57
 have HR0:=Aside0.mk hr0
 have HC0:=Aside0.mk hc0
 clear hr0 hc0
 have HB:=Aside0.mk (Below.refl w.heap.size w)
 have H:=h
 unfold Xk.f at H
 clear h
 obtain⟨y101,hy101⟩:∃ y_:List (S59),y_=(([]:List (S59))):=⟨_,rfl⟩
 replace H:(Xk.l0 k l0 y101 0)=some r:=yH H hy101
 have Ny101:=Aside0.mk hy101
 clear hy101
 have H':=Aside0.mk H
 clear H
 go_enter Try.func108,Try.ntmps108
 go_wp2_with (first | ((with_reducible refine gate_dst (N:=6) rfl ?_);refine Kd.S_lit k59 _ 59 ?hg (N:=6) ?hd (xs:=([]:List (S59))) (inner:=[]) (ok:=fun _=>True) (okp:=fun _=>True) ?hr ?hp (fun _ hk=>hk) trivial (Below.refl _ _) (Nat.le_refl _) (by simp) ?_;(case hd=>rfl);(case hg=>rfl);(case hr=>first | (go_simp;done) | (go_simp;rfl));(case hp=>exact(Reps.none _ _));intro vz1 wz1 hoz1 hb hg_ hnew_;clear hg_ hnew_;(first | rw[← Ny101.out] at hoz1 | (simp only[Int.reduceToNat] at hoz1;rw[← Ny101.out] at hoz1));have HOz1:=Aside0.mk (Kd.S_lower hoz1 (below_size (hX HB.out)));replace HB:=Aside0.mk (below_step (hX HB.out) hb);clear hb hoz1))
 go_loopg [3,4] k (fun kq v3 v4 w'=>∃ (x3_1:List (S59)) (x4_1:Int),v4 = .int .i64 x4_1∧Aside0 (Xk.l0 kq l0 x3_1 x4_1=some r)∧Aside0 (kq≤k)∧Aside0 (Kd.S k59 59 w' w.heap.size (fun _=>True) v3 x3_1)∧Aside0 (Below w.heap.size w w'))
 case atStart=>exact⟨(y101),(0),rS,H',⟨Nat.le_refl _⟩,⟨(sX HOz1.out)⟩,⟨(hX HB.out)⟩⟩
 case round =>
  clear H'
  try clear c1
  try clear p2
  obtain⟨x3_1,x4_1,rfl,HA,HKy1,HO_y1,HB⟩:=hrel
  cases gk with
  | zero=>exact absurd HA.out (by simp[Xk.l0])
  | succ k1 =>
   have H:=HA.out
   clear HA
   simp only[Xk.l0] at H
   by_cases c4:x4_1<(l0.length:Int)
   ·rw[if_pos c4] at H
    have c4b0:=decide_eq_true c4
    clear c4
    replace H:=ifP H;obtain⟨c5,H⟩:=H
    have c5b0:=decide_eq_true c5
    clear c5
    by_cases c6:((rd_T59 l0 x4_1).f4) ≥ 0
    ·rw[if_pos c6] at H
     have c6b0:=decide_eq_true c6
     clear c6
     replace H:=bE H;obtain⟨⟨t106,t107⟩,A7,H⟩:=H
     try dsimp only at H
     replace H:=ifP H;obtain⟨c8,H⟩:=H
     have LMc8:=Aside0.mk c8
     clear c8
     obtain⟨y110,hy110⟩:∃ y_:List (S59),y_=(x3_1 ++ [(⟨(rd_T59 l0 x4_1).f0,(⟨(rd_T59 l0 x4_1).f1.f0,(rd_T59 l0 x4_1).f1.f1,(rd_T59 l0 x4_1).f1.f2⟩:S56),(rd_T59 l0 x4_1).f2,(rd_T59 l0 x4_1).f3,(rd_T59 l0 x4_1).f4,(⟨t106,t107⟩:S57)⟩:S59)]):=⟨_,rfl⟩
     replace H:(Xk.l0 k1 l0 y110 (wrap64 (x4_1+1)))=some r:=yH H hy110
     have Ny110:=Aside0.mk hy110
     clear hy110
     have H':=Aside0.mk H
     clear H
     have px1:0≤(x4_1:Int):=of_decide_eq_true (by first | (with_reducible assumption) | assumption)
     have qx1:x4_1<(l0.length:Int):=of_decide_eq_true (by first | (with_reducible assumption) | assumption)
     obtain⟨adx1,Ax1,cx1,ex1,hxx1,hxx2,hxx3,hxx4,hxx5,hxx6,hxx7,hxx8,hxx9,hlx1,hix1⟩:=at_T59 HR0.out x4_1 px1 qx1
     cases ex1
     replace hxx1:=(HB.out.cell (World.block_lt_of_cell? w _ hxx1)).trans hxx1
     replace hxx2:=(HB.out.cell (World.block_lt_of_cell? w _ hxx2)).trans hxx2
     replace hxx3:=(HB.out.cell (World.block_lt_of_cell? w _ hxx3)).trans hxx3
     replace hxx4:=(HB.out.cell (World.block_lt_of_cell? w _ hxx4)).trans hxx4
     replace hxx5:=(HB.out.cell (World.block_lt_of_cell? w _ hxx5)).trans hxx5
     replace hxx6:=(HB.out.cell (World.block_lt_of_cell? w _ hxx6)).trans hxx6
     replace hxx7:=(HB.out.cell (World.block_lt_of_cell? w _ hxx7)).trans hxx7
     replace hxx8:=(HB.out.cell (World.block_lt_of_cell? w _ hxx8)).trans hxx8
     replace hxx9:=(HB.out.cell (World.block_lt_of_cell? w _ hxx9)).trans hxx9
     have HRx1:=Aside0.mk hix1
     have HCx1:=Aside0.mk hlx1
     clear hix1 hlx1
     replace px1:=eq_true px1
     replace qx1:=eq_true qx1
     go_wp2_with (first | ((with_reducible refine gate_dst (N:=5) rfl ?_);refine boxE 5 #[.int .i64 0,.int .i64 0,.int .i64 0,.int .i64 0,.int .i64 0,.int .i64 0,.int .i64 0,.int .i64 0,.slice none 0 0] 59 ?_;intro gbx1 hg wx1 hbox hb;have BKx1:=Aside0.mk (hbox);have GWx1:=Aside0.mk (gX' hg (hX HB.out));have GEx1:=Aside0.mk (gX' hg (hX HB.out));replace HO_y1:=Aside0.mk (Kd.S_below (Kd.S_elderB (sX HO_y1.out) gbx1 (Nat.le_of_eq hg.symm)) hb);replace HB:=Aside0.mk (below_step (hX HB.out) hb);clear hb hbox hg;obtain⟨hczx1,hczx2,hczx3,hczx4,hczx5,hczx6,hczx7,hczx8,hczx9,hfzx1,hfzx2,hfzx3,hfzx4,hfzx5,hfzx6,hfzx7,hfzx8,hfzx9⟩:=cZ9 BKx1.out) | ((with_reducible refine gate_callee (f:=128) rfl ?_);refine goesM 128 27 Try.func128 #[.agg #[.int .i64 ((rd_T59 l0 x4_1).f5.f0),.slice Ax1 ((rd_T59 l0 x4_1).f5.f1).length cx1]] ?_;refine(XJ.calls ((rd_T59 l0 x4_1).f5.f0) _ _ ((rd_T59 l0 x4_1).f5.f1) t106 t107 _ (by exact Kd.C_below HRx1.out (hX HB.out)) HCx1.out A7.out).mono ?_;rintro e wx2 ⟨vx1,rfl,hox1,hb⟩;refine⟨_,rfl,?_⟩;have HOx1:=Aside0.mk (Kd.R_lower hox1 (below_size (hX HB.out)));replace HO_y1:=Aside0.mk (Kd.S_elder' (by (with_reducible repeat (first | apply Kd.S_alloc | apply Kd.S_drewN | apply Kd.S_drew));exact(Kd.S_mono (Kd.S_far (p:=⟨gbx1,8,none⟩) (Kd.S_far (p:=⟨gbx1,7,none⟩) (Kd.S_far (p:=⟨gbx1,6,none⟩) (Kd.S_far (p:=⟨gbx1,5,none⟩) (Kd.S_far (p:=⟨gbx1,4,none⟩) (Kd.S_far (p:=⟨gbx1,3,none⟩) (Kd.S_far (p:=⟨gbx1,2,none⟩) (Kd.S_far (p:=⟨gbx1,1,none⟩) (Kd.S_far (p:=⟨gbx1,0,none⟩) (Kd.S_mono HO_y1.out (fun k_ hk=>(⟨hk,hk.2⟩:_∧k_ ≠ gbx1))) (fun _ hk=>hk.2) (.int .i64 ((rd_T59 l0 x4_1).f0))) (fun _ hk=>hk.2) (.int .i64 ((rd_T59 l0 x4_1).f1.f0))) (fun _ hk=>hk.2) (.int .i64 ((rd_T59 l0 x4_1).f1.f1))) (fun _ hk=>hk.2) (.int .i64 ((rd_T59 l0 x4_1).f1.f2))) (fun _ hk=>hk.2) (.int .i64 ((rd_T59 l0 x4_1).f2))) (fun _ hk=>hk.2) (.int .i64 ((rd_T59 l0 x4_1).f3))) (fun _ hk=>hk.2) (.int .i64 ((rd_T59 l0 x4_1).f4))) (fun _ hk=>hk.2) (.int .i64 ((rd_T59 l0 x4_1).f5.f0))) (fun _ hk=>hk.2) (.slice Ax1 ((rd_T59 l0 x4_1).f5.f1).length cx1)) (fun _ h_=>h_.1))) (Kd.R_base hox1) hb);replace BKx1:=Aside0.mk (blk_below (g:=gbx1) (o:=.cells #[.int .i64 ((rd_T59 l0 x4_1).f0),.int .i64 ((rd_T59 l0 x4_1).f1.f0),.int .i64 ((rd_T59 l0 x4_1).f1.f1),.int .i64 ((rd_T59 l0 x4_1).f1.f2),.int .i64 ((rd_T59 l0 x4_1).f2),.int .i64 ((rd_T59 l0 x4_1).f3),.int .i64 ((rd_T59 l0 x4_1).f4),.int .i64 ((rd_T59 l0 x4_1).f5.f0),.slice Ax1 ((rd_T59 l0 x4_1).f5.f1).length cx1] 59 (0,0)) (bP BKx1.out) hb);replace HB:=Aside0.mk (below_step (hX HB.out) hb);clear hb hox1;obtain⟨hczx10,hczx11,hczx12,hczx13,hczx14,hczx15,hczx16,hczx17,hczx18,hfzx10,hfzx11,hfzx12,hfzx13,hfzx14,hfzx15,hfzx16,hfzx17,hfzx18⟩:=cZ9 BKx1.out;obtain⟨Aox1,cox1,eox1⟩:=Kd.R_slice HOx1.out;subst eox1) | ((with_reducible refine gate_store (t:=57) (p:=28) rfl ?_);refine store_event (t:=57) (p:=28) (v:=?vo_wx3) (w1:=((wx2.setCell ⟨gbx1,7,none⟩ (.int .i64 t106)).setCell ⟨gbx1,8,none⟩ (.slice Aox1 t107.length cox1))) ?hg ?ho ?hn ?hr ?_;(case ho=>rfl);(case hg=>rfl);(case hn=>rfl);(case hr=>first | (go_simp;done) | (go_simp;rfl));intro wx3 hw;replace HO_y1:Aside0 (Kd.S k59 59 wx3 w.heap.size (fun k_=>some k_ ≠ (.slice Aox1 t107.length cox1:Value).ownBlock∧k_ ≠ gbx1) u3 x3_1):=⟨(by rw[hw];exact(by (with_reducible repeat (first | apply Kd.S_alloc | apply Kd.S_drewN | apply Kd.S_drew));exact Kd.S_mono (Kd.S_far (p:=⟨gbx1,8,none⟩) (Kd.S_far (p:=⟨gbx1,7,none⟩) (Kd.S_mono HO_y1.out (fun k_ hk=>(⟨hk,hk.1.2⟩:_∧k_ ≠ gbx1))) (fun _ hk=>hk.2) (.int .i64 t106)) (fun _ hk=>hk.2) (.slice Aox1 t107.length cox1)) (fun _ hk=>⟨hk.1.2,hk.1.1.2⟩)))⟩;replace HOx1:Aside0 (Kd.R (Kd.int .i64) 3 wx3 w.heap.size (fun _=>True) (.slice Aox1 t107.length cox1) t107):=⟨(by rw[hw];exact(rT (h:=by exact Kd.R_mono (Kd.R_far (p:=⟨gbx1,8,none⟩) (Kd.R_far (p:=⟨gbx1,7,none⟩) (Kd.R_types HOx1.out BKx1.out (by decide)) (fun _ hk=>hk.2) (.int .i64 t106)) (fun _ hk=>hk.2) (.slice Aox1 t107.length cox1)) (fun _ hk=>trivial))))⟩;replace BKx1:Aside0 (wx3.heap[gbx1]? = some (.cells #[.int .i64 ((rd_T59 l0 x4_1).f0),.int .i64 ((rd_T59 l0 x4_1).f1.f0),.int .i64 ((rd_T59 l0 x4_1).f1.f1),.int .i64 ((rd_T59 l0 x4_1).f1.f2),.int .i64 ((rd_T59 l0 x4_1).f2),.int .i64 ((rd_T59 l0 x4_1).f3),.int .i64 ((rd_T59 l0 x4_1).f4),.int .i64 t106,.slice Aox1 t107.length cox1] 59 (0,0))):=⟨(by rw[hw];exact(bP BKx1.out))⟩;replace HB:Aside0 (Below w.heap.size w wx3):=⟨(by rw[hw];exact(hX HB.out))⟩;clear hw;obtain⟨hczx19,hczx20,hczx21,hczx22,hczx23,hczx24,hczx25,hczx26,hczx27,hfzx19,hfzx20,hfzx21,hfzx22,hfzx23,hfzx24,hfzx25,hfzx26,hfzx27⟩:=cZ9 BKx1.out) | ((with_reducible refine gate_builtin (b:=.append) (xs:=#[.tmp 29,.tmp 31]) rfl ?_);at_builtin;refine Kd.S_append k59 (w0:=w) w.heap.size rfl (.tmp 29) (.tmp 31) 68 59 (.agg #[(.int .i64 0),(.int .i64 0),(.int .i64 0),(.int .i64 0),(.int .i64 0),(.int .i64 0),(.int .i64 0),(.int .i64 0),(.slice none 0 0)]) 88 rfl Try.underlying68 info59 rfl (by decide) (by omega) u3 x3_1 (⟨(rd_T59 l0 x4_1).f0,(⟨(rd_T59 l0 x4_1).f1.f0,(rd_T59 l0 x4_1).f1.f1,(rd_T59 l0 x4_1).f1.f2⟩:S56),(rd_T59 l0 x4_1).f2,(rd_T59 l0 x4_1).f3,(rd_T59 l0 x4_1).f4,(⟨t106,t107⟩:S57)⟩:S59) [.int .i64 ((rd_T59 l0 x4_1).f0),.int .i64 ((rd_T59 l0 x4_1).f1.f0),.int .i64 ((rd_T59 l0 x4_1).f1.f1),.int .i64 ((rd_T59 l0 x4_1).f1.f2),.int .i64 ((rd_T59 l0 x4_1).f2),.int .i64 ((rd_T59 l0 x4_1).f3),.int .i64 ((rd_T59 l0 x4_1).f4),.int .i64 t106,.slice Aox1 t107.length cox1] (fun k_=>k_ ≠ gbx1) (fun k_=>some k_=(.slice Aox1 t107.length cox1:Value).ownBlock) rfl rfl ?aP (fun k_ hk_=>((Kd.R_mono (ok':=fun k_=>((fun k_=>k_ ≠ gbx1)) k_∧some k_ ≠ (u3:Value).ownBlock) (Kd.R_types (Kd.R_apart' (HOx1.out) (Kd.S_typed HO_y1.out) (by decide)) BKx1.out (by decide)) (fun k_ hk=>⟨hk.2,hk.1.2⟩))).1 k_ hk_.symm) ?aF ?aO ?aB ?aS ?aL ?_;(case aP=>exact k59_mkM _ _ _ (⟨(rd_T59 l0 x4_1).f0,(⟨(rd_T59 l0 x4_1).f1.f0,(rd_T59 l0 x4_1).f1.f1,(rd_T59 l0 x4_1).f1.f2⟩:S56),(rd_T59 l0 x4_1).f2,(rd_T59 l0 x4_1).f3,(rd_T59 l0 x4_1).f4,(⟨t106,t107⟩:S57)⟩:S59) (Kd.R_mono (Kd.R_tight rfl (Kd.R_mono (ok':=fun k_=>((fun k_=>k_ ≠ gbx1)) k_∧some k_ ≠ (u3:Value).ownBlock) (Kd.R_types (Kd.R_apart' (HOx1.out) (Kd.S_typed HO_y1.out) (by decide)) BKx1.out (by decide)) (fun k_ hk=>⟨hk.2,hk.1.2⟩))) (fun _ h_=>h_)));(case aB=>exact(hX HB.out));(case aF=>exact(fun k_ hk=>Kd.freshB (g:=gbx1) (o:=.cells #[.int .i64 ((rd_T59 l0 x4_1).f0),.int .i64 ((rd_T59 l0 x4_1).f1.f0),.int .i64 ((rd_T59 l0 x4_1).f1.f1),.int .i64 ((rd_T59 l0 x4_1).f1.f2),.int .i64 ((rd_T59 l0 x4_1).f2),.int .i64 ((rd_T59 l0 x4_1).f3),.int .i64 ((rd_T59 l0 x4_1).f4),.int .i64 t106,.slice Aox1 t107.length cox1] 59 (0,0)) (bX BKx1.out) k_ hk));(case aO=>exact(by (with_reducible repeat (first | apply Kd.S_alloc | apply Kd.S_drewN | apply Kd.S_drew));exact Kd.S_mono HO_y1.out (fun k_ hk=>⟨hk.2,fun e_=>hk.1 e_⟩)));(case aS=>exact(below_size (hX HB.out)));(case aL=>have:=LMc8.out;omega);intro vx2 wx4 ho hb hg hat;rw[← Ny110.out] at ho;have HOx2:=Aside0.mk (ho);replace BKx1:=Aside0.mk (blk_grown (g:=gbx1) (o:=.cells #[.int .i64 ((rd_T59 l0 x4_1).f0),.int .i64 ((rd_T59 l0 x4_1).f1.f0),.int .i64 ((rd_T59 l0 x4_1).f1.f1),.int .i64 ((rd_T59 l0 x4_1).f1.f2),.int .i64 ((rd_T59 l0 x4_1).f2),.int .i64 ((rd_T59 l0 x4_1).f3),.int .i64 ((rd_T59 l0 x4_1).f4),.int .i64 t106,.slice Aox1 t107.length cox1] 59 (0,0)) (bX BKx1.out) hg (Kd.S_away HO_y1.out (fun _ hk=>hk.2)));replace HB:=Aside0.mk (hb);clear HO_y1 HOx1;clear ho hb hg hat))
     go_roundg k1
     case measure=>have:=HKy1.out;omega
     case rel=>exact⟨(y110),(wrap64 (x4_1+1)),rS,H',⟨by have:=HKy1.out;omega⟩,⟨by (with_reducible repeat (first | apply Kd.S_alloc | apply Kd.S_drewN | apply Kd.S_drew));exact Kd.S_mono HOx2.out (fun _ hk=>trivial)⟩,⟨(hX HB.out)⟩⟩
    ·rw[if_neg c6] at H
     have c6b0:=decide_eq_false c6
     clear c6
     by_cases c17:((rd_T59 l0 x4_1).f3) ≥ 0
     ·rw[if_pos c17] at H
      have c17b0:=decide_eq_true c17
      clear c17
      replace H:=bE H;obtain⟨⟨t113,t114⟩,A18,H⟩:=H
      try dsimp only at H
      replace H:=ifP H;obtain⟨c19,H⟩:=H
      have LMc19:=Aside0.mk c19
      clear c19
      obtain⟨y117,hy117⟩:∃ y_:List (S59),y_=(x3_1 ++ [(⟨(rd_T59 l0 x4_1).f0,(⟨(rd_T59 l0 x4_1).f1.f0,(rd_T59 l0 x4_1).f1.f1,(rd_T59 l0 x4_1).f1.f2⟩:S56),(rd_T59 l0 x4_1).f2,(rd_T59 l0 x4_1).f3,(rd_T59 l0 x4_1).f4,(⟨t113,t114⟩:S57)⟩:S59)]):=⟨_,rfl⟩
      replace H:(Xk.l0 k1 l0 y117 (wrap64 (x4_1+1)))=some r:=yH H hy117
      have Ny117:=Aside0.mk hy117
      clear hy117
      have H':=Aside0.mk H
      clear H
      have px1:0≤(x4_1:Int):=of_decide_eq_true (by first | (with_reducible assumption) | assumption)
      have qx1:x4_1<(l0.length:Int):=of_decide_eq_true (by first | (with_reducible assumption) | assumption)
      obtain⟨adx1,Ax1,cx1,ex1,hxx1,hxx2,hxx3,hxx4,hxx5,hxx6,hxx7,hxx8,hxx9,hlx1,hix1⟩:=at_T59 HR0.out x4_1 px1 qx1
      cases ex1
      replace hxx1:=(HB.out.cell (World.block_lt_of_cell? w _ hxx1)).trans hxx1
      replace hxx2:=(HB.out.cell (World.block_lt_of_cell? w _ hxx2)).trans hxx2
      replace hxx3:=(HB.out.cell (World.block_lt_of_cell? w _ hxx3)).trans hxx3
      replace hxx4:=(HB.out.cell (World.block_lt_of_cell? w _ hxx4)).trans hxx4
      replace hxx5:=(HB.out.cell (World.block_lt_of_cell? w _ hxx5)).trans hxx5
      replace hxx6:=(HB.out.cell (World.block_lt_of_cell? w _ hxx6)).trans hxx6
      replace hxx7:=(HB.out.cell (World.block_lt_of_cell? w _ hxx7)).trans hxx7
      replace hxx8:=(HB.out.cell (World.block_lt_of_cell? w _ hxx8)).trans hxx8
      replace hxx9:=(HB.out.cell (World.block_lt_of_cell? w _ hxx9)).trans hxx9
      have HRx1:=Aside0.mk hix1
      have HCx1:=Aside0.mk hlx1
      clear hix1 hlx1
      replace px1:=eq_true px1
      replace qx1:=eq_true qx1
      go_wp2_with (first | ((with_reducible refine gate_dst (N:=5) rfl ?_);refine boxE 5 #[.int .i64 0,.int .i64 0,.int .i64 0,.int .i64 0,.int .i64 0,.int .i64 0,.int .i64 0,.int .i64 0,.slice none 0 0] 59 ?_;intro gbx1 hg wx1 hbox hb;have BKx1:=Aside0.mk (hbox);have GWx1:=Aside0.mk (gX' hg (hX HB.out));have GEx1:=Aside0.mk (gX' hg (hX HB.out));replace HO_y1:=Aside0.mk (Kd.S_below (Kd.S_elderB (sX HO_y1.out) gbx1 (Nat.le_of_eq hg.symm)) hb);replace HB:=Aside0.mk (below_step (hX HB.out) hb);clear hb hbox hg;obtain⟨hczx1,hczx2,hczx3,hczx4,hczx5,hczx6,hczx7,hczx8,hczx9,hfzx1,hfzx2,hfzx3,hfzx4,hfzx5,hfzx6,hfzx7,hfzx8,hfzx9⟩:=cZ9 BKx1.out) | ((with_reducible refine gate_callee (f:=128) rfl ?_);refine goesM 128 27 Try.func128 #[.agg #[.int .i64 ((rd_T59 l0 x4_1).f5.f0),.slice Ax1 ((rd_T59 l0 x4_1).f5.f1).length cx1]] ?_;refine(XJ.calls ((rd_T59 l0 x4_1).f5.f0) _ _ ((rd_T59 l0 x4_1).f5.f1) t113 t114 _ (by exact Kd.C_below HRx1.out (hX HB.out)) HCx1.out A18.out).mono ?_;rintro e wx2 ⟨vx1,rfl,hox1,hb⟩;refine⟨_,rfl,?_⟩;have HOx1:=Aside0.mk (Kd.R_lower hox1 (below_size (hX HB.out)));replace HO_y1:=Aside0.mk (Kd.S_elder' (by (with_reducible repeat (first | apply Kd.S_alloc | apply Kd.S_drewN | apply Kd.S_drew));exact(Kd.S_mono (Kd.S_far (p:=⟨gbx1,8,none⟩) (Kd.S_far (p:=⟨gbx1,7,none⟩) (Kd.S_far (p:=⟨gbx1,6,none⟩) (Kd.S_far (p:=⟨gbx1,5,none⟩) (Kd.S_far (p:=⟨gbx1,4,none⟩) (Kd.S_far (p:=⟨gbx1,3,none⟩) (Kd.S_far (p:=⟨gbx1,2,none⟩) (Kd.S_far (p:=⟨gbx1,1,none⟩) (Kd.S_far (p:=⟨gbx1,0,none⟩) (Kd.S_mono HO_y1.out (fun k_ hk=>(⟨hk,hk.2⟩:_∧k_ ≠ gbx1))) (fun _ hk=>hk.2) (.int .i64 ((rd_T59 l0 x4_1).f0))) (fun _ hk=>hk.2) (.int .i64 ((rd_T59 l0 x4_1).f1.f0))) (fun _ hk=>hk.2) (.int .i64 ((rd_T59 l0 x4_1).f1.f1))) (fun _ hk=>hk.2) (.int .i64 ((rd_T59 l0 x4_1).f1.f2))) (fun _ hk=>hk.2) (.int .i64 ((rd_T59 l0 x4_1).f2))) (fun _ hk=>hk.2) (.int .i64 ((rd_T59 l0 x4_1).f3))) (fun _ hk=>hk.2) (.int .i64 ((rd_T59 l0 x4_1).f4))) (fun _ hk=>hk.2) (.int .i64 ((rd_T59 l0 x4_1).f5.f0))) (fun _ hk=>hk.2) (.slice Ax1 ((rd_T59 l0 x4_1).f5.f1).length cx1)) (fun _ h_=>h_.1))) (Kd.R_base hox1) hb);replace BKx1:=Aside0.mk (blk_below (g:=gbx1) (o:=.cells #[.int .i64 ((rd_T59 l0 x4_1).f0),.int .i64 ((rd_T59 l0 x4_1).f1.f0),.int .i64 ((rd_T59 l0 x4_1).f1.f1),.int .i64 ((rd_T59 l0 x4_1).f1.f2),.int .i64 ((rd_T59 l0 x4_1).f2),.int .i64 ((rd_T59 l0 x4_1).f3),.int .i64 ((rd_T59 l0 x4_1).f4),.int .i64 ((rd_T59 l0 x4_1).f5.f0),.slice Ax1 ((rd_T59 l0 x4_1).f5.f1).length cx1] 59 (0,0)) (bP BKx1.out) hb);replace HB:=Aside0.mk (below_step (hX HB.out) hb);clear hb hox1;obtain⟨hczx10,hczx11,hczx12,hczx13,hczx14,hczx15,hczx16,hczx17,hczx18,hfzx10,hfzx11,hfzx12,hfzx13,hfzx14,hfzx15,hfzx16,hfzx17,hfzx18⟩:=cZ9 BKx1.out;obtain⟨Aox1,cox1,eox1⟩:=Kd.R_slice HOx1.out;subst eox1) | ((with_reducible refine gate_store (t:=57) (p:=28) rfl ?_);refine store_event (t:=57) (p:=28) (v:=?vo_wx3_158) (w1:=((wx2.setCell ⟨gbx1,7,none⟩ (.int .i64 t113)).setCell ⟨gbx1,8,none⟩ (.slice Aox1 t114.length cox1))) ?hg ?ho ?hn ?hr ?_;(case ho=>rfl);(case hg=>rfl);(case hn=>rfl);(case hr=>first | (go_simp;done) | (go_simp;rfl));intro wx3 hw;replace HO_y1:Aside0 (Kd.S k59 59 wx3 w.heap.size (fun k_=>some k_ ≠ (.slice Aox1 t114.length cox1:Value).ownBlock∧k_ ≠ gbx1) u3 x3_1):=⟨(by rw[hw];exact(by (with_reducible repeat (first | apply Kd.S_alloc | apply Kd.S_drewN | apply Kd.S_drew));exact Kd.S_mono (Kd.S_far (p:=⟨gbx1,8,none⟩) (Kd.S_far (p:=⟨gbx1,7,none⟩) (Kd.S_mono HO_y1.out (fun k_ hk=>(⟨hk,hk.1.2⟩:_∧k_ ≠ gbx1))) (fun _ hk=>hk.2) (.int .i64 t113)) (fun _ hk=>hk.2) (.slice Aox1 t114.length cox1)) (fun _ hk=>⟨hk.1.2,hk.1.1.2⟩)))⟩;replace HOx1:Aside0 (Kd.R (Kd.int .i64) 3 wx3 w.heap.size (fun _=>True) (.slice Aox1 t114.length cox1) t114):=⟨(by rw[hw];exact(rT (h:=by exact Kd.R_mono (Kd.R_far (p:=⟨gbx1,8,none⟩) (Kd.R_far (p:=⟨gbx1,7,none⟩) (Kd.R_types HOx1.out BKx1.out (by decide)) (fun _ hk=>hk.2) (.int .i64 t113)) (fun _ hk=>hk.2) (.slice Aox1 t114.length cox1)) (fun _ hk=>trivial))))⟩;replace BKx1:Aside0 (wx3.heap[gbx1]? = some (.cells #[.int .i64 ((rd_T59 l0 x4_1).f0),.int .i64 ((rd_T59 l0 x4_1).f1.f0),.int .i64 ((rd_T59 l0 x4_1).f1.f1),.int .i64 ((rd_T59 l0 x4_1).f1.f2),.int .i64 ((rd_T59 l0 x4_1).f2),.int .i64 ((rd_T59 l0 x4_1).f3),.int .i64 ((rd_T59 l0 x4_1).f4),.int .i64 t113,.slice Aox1 t114.length cox1] 59 (0,0))):=⟨(by rw[hw];exact(bP BKx1.out))⟩;replace HB:Aside0 (Below w.heap.size w wx3):=⟨(by rw[hw];exact(hX HB.out))⟩;clear hw;obtain⟨hczx19,hczx20,hczx21,hczx22,hczx23,hczx24,hczx25,hczx26,hczx27,hfzx19,hfzx20,hfzx21,hfzx22,hfzx23,hfzx24,hfzx25,hfzx26,hfzx27⟩:=cZ9 BKx1.out) | ((with_reducible refine gate_builtin (b:=.append) (xs:=#[.tmp 29,.tmp 31]) rfl ?_);at_builtin;refine Kd.S_append k59 (w0:=w) w.heap.size rfl (.tmp 29) (.tmp 31) 68 59 (.agg #[(.int .i64 0),(.int .i64 0),(.int .i64 0),(.int .i64 0),(.int .i64 0),(.int .i64 0),(.int .i64 0),(.int .i64 0),(.slice none 0 0)]) 88 rfl Try.underlying68 info59 rfl (by decide) (by omega) u3 x3_1 (⟨(rd_T59 l0 x4_1).f0,(⟨(rd_T59 l0 x4_1).f1.f0,(rd_T59 l0 x4_1).f1.f1,(rd_T59 l0 x4_1).f1.f2⟩:S56),(rd_T59 l0 x4_1).f2,(rd_T59 l0 x4_1).f3,(rd_T59 l0 x4_1).f4,(⟨t113,t114⟩:S57)⟩:S59) [.int .i64 ((rd_T59 l0 x4_1).f0),.int .i64 ((rd_T59 l0 x4_1).f1.f0),.int .i64 ((rd_T59 l0 x4_1).f1.f1),.int .i64 ((rd_T59 l0 x4_1).f1.f2),.int .i64 ((rd_T59 l0 x4_1).f2),.int .i64 ((rd_T59 l0 x4_1).f3),.int .i64 ((rd_T59 l0 x4_1).f4),.int .i64 t113,.slice Aox1 t114.length cox1] (fun k_=>k_ ≠ gbx1) (fun k_=>some k_=(.slice Aox1 t114.length cox1:Value).ownBlock) rfl rfl ?aP (fun k_ hk_=>((Kd.R_mono (ok':=fun k_=>((fun k_=>k_ ≠ gbx1)) k_∧some k_ ≠ (u3:Value).ownBlock) (Kd.R_types (Kd.R_apart' (HOx1.out) (Kd.S_typed HO_y1.out) (by decide)) BKx1.out (by decide)) (fun k_ hk=>⟨hk.2,hk.1.2⟩))).1 k_ hk_.symm) ?aF ?aO ?aB ?aS ?aL ?_;(case aP=>exact k59_mkM _ _ _ (⟨(rd_T59 l0 x4_1).f0,(⟨(rd_T59 l0 x4_1).f1.f0,(rd_T59 l0 x4_1).f1.f1,(rd_T59 l0 x4_1).f1.f2⟩:S56),(rd_T59 l0 x4_1).f2,(rd_T59 l0 x4_1).f3,(rd_T59 l0 x4_1).f4,(⟨t113,t114⟩:S57)⟩:S59) (Kd.R_mono (Kd.R_tight rfl (Kd.R_mono (ok':=fun k_=>((fun k_=>k_ ≠ gbx1)) k_∧some k_ ≠ (u3:Value).ownBlock) (Kd.R_types (Kd.R_apart' (HOx1.out) (Kd.S_typed HO_y1.out) (by decide)) BKx1.out (by decide)) (fun k_ hk=>⟨hk.2,hk.1.2⟩))) (fun _ h_=>h_)));(case aB=>exact(hX HB.out));(case aF=>exact(fun k_ hk=>Kd.freshB (g:=gbx1) (o:=.cells #[.int .i64 ((rd_T59 l0 x4_1).f0),.int .i64 ((rd_T59 l0 x4_1).f1.f0),.int .i64 ((rd_T59 l0 x4_1).f1.f1),.int .i64 ((rd_T59 l0 x4_1).f1.f2),.int .i64 ((rd_T59 l0 x4_1).f2),.int .i64 ((rd_T59 l0 x4_1).f3),.int .i64 ((rd_T59 l0 x4_1).f4),.int .i64 t113,.slice Aox1 t114.length cox1] 59 (0,0)) (bX BKx1.out) k_ hk));(case aO=>exact(by (with_reducible repeat (first | apply Kd.S_alloc | apply Kd.S_drewN | apply Kd.S_drew));exact Kd.S_mono HO_y1.out (fun k_ hk=>⟨hk.2,fun e_=>hk.1 e_⟩)));(case aS=>exact(below_size (hX HB.out)));(case aL=>have:=LMc19.out;omega);intro vx2 wx4 ho hb hg hat;rw[← Ny117.out] at ho;have HOx2:=Aside0.mk (ho);replace BKx1:=Aside0.mk (blk_grown (g:=gbx1) (o:=.cells #[.int .i64 ((rd_T59 l0 x4_1).f0),.int .i64 ((rd_T59 l0 x4_1).f1.f0),.int .i64 ((rd_T59 l0 x4_1).f1.f1),.int .i64 ((rd_T59 l0 x4_1).f1.f2),.int .i64 ((rd_T59 l0 x4_1).f2),.int .i64 ((rd_T59 l0 x4_1).f3),.int .i64 ((rd_T59 l0 x4_1).f4),.int .i64 t113,.slice Aox1 t114.length cox1] 59 (0,0)) (bX BKx1.out) hg (Kd.S_away HO_y1.out (fun _ hk=>hk.2)));replace HB:=Aside0.mk (hb);clear HO_y1 HOx1;clear ho hb hg hat))
      go_roundg k1
      case measure=>have:=HKy1.out;omega
      case rel=>exact⟨(y117),(wrap64 (x4_1+1)),rS,H',⟨by have:=HKy1.out;omega⟩,⟨by (with_reducible repeat (first | apply Kd.S_alloc | apply Kd.S_drewN | apply Kd.S_drew));exact Kd.S_mono HOx2.out (fun _ hk=>trivial)⟩,⟨(hX HB.out)⟩⟩
     ·rw[if_neg c17] at H
      have c17b0:=decide_eq_false c17
      clear c17
      have H':=Aside0.mk H
      clear H
      have px1:0≤(x4_1:Int):=of_decide_eq_true (by first | (with_reducible assumption) | assumption)
      have qx1:x4_1<(l0.length:Int):=of_decide_eq_true (by first | (with_reducible assumption) | assumption)
      obtain⟨adx1,Ax1,cx1,ex1,hxx1,hxx2,hxx3,hxx4,hxx5,hxx6,hxx7,hxx8,hxx9,hlx1,hix1⟩:=at_T59 HR0.out x4_1 px1 qx1
      cases ex1
      replace hxx1:=(HB.out.cell (World.block_lt_of_cell? w _ hxx1)).trans hxx1
      replace hxx2:=(HB.out.cell (World.block_lt_of_cell? w _ hxx2)).trans hxx2
      replace hxx3:=(HB.out.cell (World.block_lt_of_cell? w _ hxx3)).trans hxx3
      replace hxx4:=(HB.out.cell (World.block_lt_of_cell? w _ hxx4)).trans hxx4
      replace hxx5:=(HB.out.cell (World.block_lt_of_cell? w _ hxx5)).trans hxx5
      replace hxx6:=(HB.out.cell (World.block_lt_of_cell? w _ hxx6)).trans hxx6
      replace hxx7:=(HB.out.cell (World.block_lt_of_cell? w _ hxx7)).trans hxx7
      replace hxx8:=(HB.out.cell (World.block_lt_of_cell? w _ hxx8)).trans hxx8
      replace hxx9:=(HB.out.cell (World.block_lt_of_cell? w _ hxx9)).trans hxx9
      have HRx1:=Aside0.mk hix1
      have HCx1:=Aside0.mk hlx1
      clear hix1 hlx1
      replace px1:=eq_true px1
      replace qx1:=eq_true qx1
      go_wp2_with (first | (refine boxE 5 #[.int .i64 0,.int .i64 0,.int .i64 0,.int .i64 0,.int .i64 0,.int .i64 0,.int .i64 0,.int .i64 0,.slice none 0 0] 59 ?_;intro gbx1 hg wx1 hbox hb;have BKx1:=Aside0.mk (hbox);have GWx1:=Aside0.mk (gX' hg (hX HB.out));have GEx1:=Aside0.mk (gX' hg (hX HB.out));replace HO_y1:=Aside0.mk (Kd.S_below (Kd.S_elderB (sX HO_y1.out) gbx1 (Nat.le_of_eq hg.symm)) hb);replace HB:=Aside0.mk (below_step (hX HB.out) hb);clear hb hbox hg;obtain⟨hczx1,hczx2,hczx3,hczx4,hczx5,hczx6,hczx7,hczx8,hczx9,hfzx1,hfzx2,hfzx3,hfzx4,hfzx5,hfzx6,hfzx7,hfzx8,hfzx9⟩:=cZ9 BKx1.out))
      go_roundg k1
      case measure=>have:=HKy1.out;omega
      case rel=>exact⟨(x3_1),(wrap64 (x4_1+1)),rS,H',⟨by have:=HKy1.out;omega⟩,⟨by (with_reducible repeat (first | apply Kd.S_alloc | apply Kd.S_drewN | apply Kd.S_drew));exact Kd.S_mono (Kd.S_far (p:=⟨gbx1,8,none⟩) (Kd.S_far (p:=⟨gbx1,7,none⟩) (Kd.S_far (p:=⟨gbx1,6,none⟩) (Kd.S_far (p:=⟨gbx1,5,none⟩) (Kd.S_far (p:=⟨gbx1,4,none⟩) (Kd.S_far (p:=⟨gbx1,3,none⟩) (Kd.S_far (p:=⟨gbx1,2,none⟩) (Kd.S_far (p:=⟨gbx1,1,none⟩) (Kd.S_far (p:=⟨gbx1,0,none⟩) (Kd.S_mono HO_y1.out (fun k_ hk=>(⟨hk,hk.2⟩:_∧k_ ≠ gbx1))) (fun _ hk=>hk.2) (.int .i64 ((rd_T59 l0 x4_1).f0))) (fun _ hk=>hk.2) (.int .i64 ((rd_T59 l0 x4_1).f1.f0))) (fun _ hk=>hk.2) (.int .i64 ((rd_T59 l0 x4_1).f1.f1))) (fun _ hk=>hk.2) (.int .i64 ((rd_T59 l0 x4_1).f1.f2))) (fun _ hk=>hk.2) (.int .i64 ((rd_T59 l0 x4_1).f2))) (fun _ hk=>hk.2) (.int .i64 ((rd_T59 l0 x4_1).f3))) (fun _ hk=>hk.2) (.int .i64 ((rd_T59 l0 x4_1).f4))) (fun _ hk=>hk.2) (.int .i64 ((rd_T59 l0 x4_1).f5.f0))) (fun _ hk=>hk.2) (.slice Ax1 ((rd_T59 l0 x4_1).f5.f1).length cx1)) (fun _ hk=>trivial)⟩,⟨(hX HB.out)⟩⟩
   ·rw[if_neg c4] at H
    have c4b0:=decide_eq_false c4
    clear c4
    obtain rfl:=Option.some.inj H
    go_wp2
    go_ret
    exact⟨_,rE,(sX HO_y1.out),(hX HB.out)⟩
end Go.Proofs.Yteamagejhbkhnaa.P
