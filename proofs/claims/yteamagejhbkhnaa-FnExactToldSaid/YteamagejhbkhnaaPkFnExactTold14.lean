/- A part of the proof of the law FnExactTold: texts of this seat, merged (words, printed functions of the program, plain lemmas). Conditions: none of its own. -/
import Derived.Test.YteamagejhbkhnaaPkFnExactTold9
import Derived.Test.YteamagejhbkhnaaPkFnExactTold10
import Derived.Test.YteamagejhbkhnaaPkFnExactTold11
set_option linter.unusedSimpArgs false
set_option linter.unusedVariables false
set_option maxHeartbeats 8000000
set_option maxRecDepth 100000
namespace Go.Proofs.Yteamagejhbkhnaa.P
open Go.RowKit Go.Proofs.YteamagejhbkhnaaW.PrintWords Go.Proofs.YteamagejhbkhnaaW.PrintLast Go.Proofs.YteamagejhbkhnaaZ
theorem toIntS_ev (l:List Int) (hl:l.length≤1048576):Ev (fun k=>Xq.f k l) l:=by
 have c1:(0:Int)≤(l.length:Int):=by omega
 have c2:l.length≤35184372088832:=by omega
 simp only[Xq.f,c1,c2,if_true,Int.toNat_natCast]
 have h:=fill_ev l id (0:Int) (g:=fun k s i=>Xq.l0 k l s i) ?_ ?_
 ·rw[List.map_id] at h
  exact h
 ·intro s hs
  refine Ev.shift ?_
  simp only[Xq.l0,Int.lt_irrefl,if_false]
  exact Ev.now _
 ·intro s i x r hx hs hi h
  refine Ev.shift ?_
  have d1:(i:Int)<(l.length:Int):=by omega
  have d2:(0:Int)≤(i:Int):=by omega
  have d3:(i:Int)<(s.length:Int):=by omega
  simp only[Xq.l0,d1,d2,d3,if_true,rd_get hx,Int.toNat_natCast,succ64 hi (by omega)]
  exact h
theorem eqIntS_ev (l:List Int) (hl:l.length≤9223372036854775807):Ev (fun k=>Xp.f k l l) true:=by
 simp only[Xp.f,if_true]
 refine look_ev l true (g:=fun k i=>Xp.l0 k l l i) ?_ ?_
 ·refine Ev.shift ?_
  simp only[Xp.l0,Int.lt_irrefl,if_false]
  exact Ev.now _
 ·intro i x hx hi h
  refine Ev.shift ?_
  have d1:(i:Int)<(l.length:Int):=by omega
  have d2:(0:Int)≤(i:Int):=by omega
  simp only[Xp.l0,d1,d2,if_true,succ64 hi hl]
  exact h
theorem szIntS_eq (l:List Int) (t:Int) (h0:0≤t) (h1:t≤1048576) (hl:l.length≤9223372036854775807):XM.f l t=some (lf (l.length:Int) t):=by
 have e:wrap64 (t - (l.length:Int))=t - l.length:=w64 (by omega) (by omega)
 unfold XM.f lf
 rw[e]
 by_cases h:(l.length:Int)≤t
 ·rw[if_neg (by omega),if_pos h]
 ·rw[if_pos (by omega),if_neg h]
end Go.Proofs.Yteamagejhbkhnaa.P
namespace Go.Proofs.Yteamagejhbkhnaa.P
open Go.Proofs.YteamagejhbkhnaaZ Go.RowKit Go.Proofs.YteamagejhbkhnaaW.PrintWords Go.Proofs.YteamagejhbkhnaaW.PrintLast Go.Proofs.YteamagejhbkhnaaW.PrintMore
attribute [local go_sem] max2_int min2_int max_two min_two max_three min_three max_four min_four   -- for this text's walks alone
def X2.f (k:Nat) (a0_0:Int) (a0_1:Int) (a0_2:Int) (a0_3:Int) (a0_4:Int) (a0_5:Int) (a0_6:Int) (a0_7:Int) (l0_8:List Int) (a1_0:Int) (a1_1:Int) (a1_2:Int) (a1_3:Int) (a1_4:Int) (a1_5:Int) (a1_6:Int) (a1_7:Int) (l1_8:List Int):Option (Bool):=if a0_0=a1_0 then ((XV.f a0_1 a0_2 a0_3 a1_1 a1_2 a1_3).bind fun t103=>(if t103=true then (if a0_4=a1_4 then (if a0_5=a1_5 then (if a0_6=a1_6 then ((XR.f k a0_7 l0_8 a1_7 l1_8).bind fun t104=>(if t104=true then (some true) else (some false))) else (some false)) else (some false)) else (some false)) else (some false))) else (some false)
theorem X2.calls (k:Nat) (a0_0:Int) (a0_1:Int) (a0_2:Int) (a0_3:Int) (a0_4:Int) (a0_5:Int) (a0_6:Int) (a0_7:Int) (A0_8:Option Addr) (c0_8:Nat) (l0_8:List Int) (a1_0:Int) (a1_1:Int) (a1_2:Int) (a1_3:Int) (a1_4:Int) (a1_5:Int) (a1_6:Int) (a1_7:Int) (A1_8:Option Addr) (c1_8:Nat) (l1_8:List Int) (r:Bool) (w:World) (hr0_8:Kd.C (Kd.int .i64) w A0_8 l0_8.length l0_8) (hc0_8:l0_8.length≤c0_8) (hr1_8:Kd.C (Kd.int .i64) w A1_8 l1_8.length l1_8) (hc1_8:l1_8.length≤c1_8) (h:X2.f k a0_0 a0_1 a0_2 a0_3 a0_4 a0_5 a0_6 a0_7 l0_8 a1_0 a1_1 a1_2 a1_3 a1_4 a1_5 a1_6 a1_7 l1_8=some r) :
  Calls Try.prog 58 #[.agg #[.int .i64 a0_0,.int .i64 a0_1,.int .i64 a0_2,.int .i64 a0_3,.int .i64 a0_4,.int .i64 a0_5,.int .i64 a0_6,.int .i64 a0_7,.slice A0_8 l0_8.length c0_8],.agg #[.int .i64 a1_0,.int .i64 a1_1,.int .i64 a1_2,.int .i64 a1_3,.int .i64 a1_4,.int .i64 a1_5,.int .i64 a1_6,.int .i64 a1_7,.slice A1_8 l1_8.length c1_8]] w fun e w'=>e = .returned (.bool r)∧Below w.heap.size w w':=by
 have hu59:=Try.underlying59
 have hu56:=Try.underlying56
 have hu57:=Try.underlying57
 have HR0_8:=Aside0.mk hr0_8
 have HC0_8:=Aside0.mk hc0_8
 clear hr0_8 hc0_8
 have HR1_8:=Aside0.mk hr1_8
 have HC1_8:=Aside0.mk hc1_8
 clear hr1_8 hc1_8
 have HB:=Aside0.mk (Below.refl w.heap.size w)
 have H:=h
 unfold X2.f at H
 clear h
 go_enter Try.func58,Try.ntmps58
 go_wp2_with (first | ((with_reducible refine gate_dst (N:=2) rfl ?_);refine boxE 2 #[.int .i64 a0_0,.int .i64 a0_1,.int .i64 a0_2,.int .i64 a0_3,.int .i64 a0_4,.int .i64 a0_5,.int .i64 a0_6,.int .i64 a0_7,.slice A0_8 l0_8.length c0_8] 59 ?_;intro gbz1 hg wz1 hbox hb;have BKz1:=Aside0.mk (hbox);have GWz1:=Aside0.mk (gX' hg (hX HB.out));have GEz1:=Aside0.mk (gX' hg (hX HB.out));replace HB:=Aside0.mk (below_step (hX HB.out) hb);clear hb hbox hg) | ((with_reducible refine gate_dst (N:=3) rfl ?_);refine boxE 3 #[.int .i64 a1_0,.int .i64 a1_1,.int .i64 a1_2,.int .i64 a1_3,.int .i64 a1_4,.int .i64 a1_5,.int .i64 a1_6,.int .i64 a1_7,.slice A1_8 l1_8.length c1_8] 59 ?_;intro gbz2 hg wz2 hbox hb;have BKz2:=Aside0.mk (hbox);have GWz2:=Aside0.mk (gX' hg (hX HB.out));have GEz2:=Aside0.mk (gX' hg (hX HB.out));have NBz1:=Aside0.mk (gL hg (bX BKz1.out));have NBz2:=Aside0.mk (gG hg (bX BKz1.out));replace BKz1:=Aside0.mk (blk_below (bX BKz1.out) hb);replace HB:=Aside0.mk (below_step (hX HB.out) hb);clear hb hbox hg;have hnbz1:=NBz1.out;have hncz1:=NBz2.out;obtain⟨hczz1,hczz2,hczz3,hczz4,hczz5,hczz6,hczz7,hczz8,hczz9,hfzz1,hfzz2,hfzz3,hfzz4,hfzz5,hfzz6,hfzz7,hfzz8,hfzz9⟩:=cZ9 BKz1.out;obtain⟨hczz10,hczz11,hczz12,hczz13,hczz14,hczz15,hczz16,hczz17,hczz18,hfzz10,hfzz11,hfzz12,hfzz13,hfzz14,hfzz15,hfzz16,hfzz17,hfzz18⟩:=cZ9 BKz2.out;refine Stop.out ?_))
 refine⟨?_⟩
 by_cases c3:a0_0=a1_0
 ·rw[if_pos c3] at H
  obtain⟨c3b0,c3b1⟩:=eqT c3
  clear c3
  replace H:=bE H;obtain⟨t103,A4,H⟩:=H
  by_cases c5:t103=true
  ·subst c5
   rw[if_pos rfl] at H
   go_wp2_with (first | ((with_reducible refine gate_callee (f:=105) rfl ?_);refine goesM 105 14 Try.func105 #[.agg #[.int .i64 a0_1,.int .i64 a0_2,.int .i64 a0_3],.agg #[.int .i64 a1_1,.int .i64 a1_2,.int .i64 a1_3]] ?_;refine(XV.calls a0_1 a0_2 a0_3 a1_1 a1_2 a1_3 true _ A4.out).mono ?_;rintro e wz3 ⟨rfl,hb⟩;refine⟨_,rfl,?_⟩;replace BKz1:=Aside0.mk (blk_below (bX BKz1.out) hb);replace BKz2:=Aside0.mk (blk_below (bX BKz2.out) hb);replace HB:=Aside0.mk (below_step (hX HB.out) hb);clear hb;obtain⟨hczz19,hczz20,hczz21,hczz22,hczz23,hczz24,hczz25,hczz26,hczz27,hfzz19,hfzz20,hfzz21,hfzz22,hfzz23,hfzz24,hfzz25,hfzz26,hfzz27⟩:=cZ9 BKz1.out;obtain⟨hczz28,hczz29,hczz30,hczz31,hczz32,hczz33,hczz34,hczz35,hczz36,hfzz28,hfzz29,hfzz30,hfzz31,hfzz32,hfzz33,hfzz34,hfzz35,hfzz36⟩:=cZ9 BKz2.out;refine Stop.out ?_))
   refine⟨?_⟩
   by_cases c6:a0_4=a1_4
   ·rw[if_pos c6] at H
    obtain⟨c6b0,c6b1⟩:=eqT c6
    clear c6
    by_cases c7:a0_5=a1_5
    ·rw[if_pos c7] at H
     obtain⟨c7b0,c7b1⟩:=eqT c7
     clear c7
     by_cases c8:a0_6=a1_6
     ·rw[if_pos c8] at H
      obtain⟨c8b0,c8b1⟩:=eqT c8
      clear c8
      replace H:=bE H;obtain⟨t104,A9,H⟩:=H
      by_cases c10:t104=true
      ·subst c10
       rw[if_pos rfl] at H
       obtain rfl:=Option.some.inj H
       go_wp2_with (first | ((with_reducible refine gate_callee (f:=106) rfl ?_);refine goesM 106 35 Try.func106 #[.agg #[.int .i64 a0_7,.slice A0_8 l0_8.length c0_8],.agg #[.int .i64 a1_7,.slice A1_8 l1_8.length c1_8]] ?_;refine(XR.calls k a0_7 _ _ l0_8 a1_7 _ _ l1_8 true _ (cC HR0_8.out HB.out) HC0_8.out (cC HR1_8.out HB.out) HC1_8.out A9.out).mono ?_;rintro e wz4 ⟨rfl,hb⟩;refine⟨_,rfl,?_⟩;replace BKz1:=Aside0.mk (blk_below (bX BKz1.out) hb);replace BKz2:=Aside0.mk (blk_below (bX BKz2.out) hb);replace HB:=Aside0.mk (below_step (hX HB.out) hb);clear hb))
       go_ret
       exact⟨rE,(hX HB.out)⟩
      ·replace c10:=Bool.eq_false_iff.mpr c10
       subst c10
       rw[if_neg nft] at H
       obtain rfl:=Option.some.inj H
       go_wp2_with (first | ((with_reducible refine gate_callee (f:=106) rfl ?_);refine goesM 106 35 Try.func106 #[.agg #[.int .i64 a0_7,.slice A0_8 l0_8.length c0_8],.agg #[.int .i64 a1_7,.slice A1_8 l1_8.length c1_8]] ?_;refine(XR.calls k a0_7 _ _ l0_8 a1_7 _ _ l1_8 false _ (cC HR0_8.out HB.out) HC0_8.out (cC HR1_8.out HB.out) HC1_8.out A9.out).mono ?_;rintro e wz4 ⟨rfl,hb⟩;refine⟨_,rfl,?_⟩;replace BKz1:=Aside0.mk (blk_below (bX BKz1.out) hb);replace BKz2:=Aside0.mk (blk_below (bX BKz2.out) hb);replace HB:=Aside0.mk (below_step (hX HB.out) hb);clear hb))
       go_ret
       exact⟨rE,(hX HB.out)⟩
     ·rw[if_neg c8] at H
      obtain⟨c8b0,c8b1⟩:=eqF c8
      obtain rfl:=Option.some.inj H
      go_wp2
      go_ret
      exact⟨rE,(hX HB.out)⟩
    ·rw[if_neg c7] at H
     obtain⟨c7b0,c7b1⟩:=eqF c7
     obtain rfl:=Option.some.inj H
     go_wp2
     go_ret
     exact⟨rE,(hX HB.out)⟩
   ·rw[if_neg c6] at H
    obtain⟨c6b0,c6b1⟩:=eqF c6
    obtain rfl:=Option.some.inj H
    go_wp2
    go_ret
    exact⟨rE,(hX HB.out)⟩
  ·replace c5:=Bool.eq_false_iff.mpr c5
   subst c5
   rw[if_neg nft] at H
   obtain rfl:=Option.some.inj H
   go_wp2_with (first | ((with_reducible refine gate_callee (f:=105) rfl ?_);refine goesM 105 14 Try.func105 #[.agg #[.int .i64 a0_1,.int .i64 a0_2,.int .i64 a0_3],.agg #[.int .i64 a1_1,.int .i64 a1_2,.int .i64 a1_3]] ?_;refine(XV.calls a0_1 a0_2 a0_3 a1_1 a1_2 a1_3 false _ A4.out).mono ?_;rintro e wz3 ⟨rfl,hb⟩;refine⟨_,rfl,?_⟩;replace BKz1:=Aside0.mk (blk_below (bX BKz1.out) hb);replace BKz2:=Aside0.mk (blk_below (bX BKz2.out) hb);replace HB:=Aside0.mk (below_step (hX HB.out) hb);clear hb))
   go_ret
   exact⟨rE,(hX HB.out)⟩
 ·rw[if_neg c3] at H
  obtain⟨c3b0,c3b1⟩:=eqF c3
  obtain rfl:=Option.some.inj H
  go_wp2
  go_ret
  exact⟨rE,(hX HB.out)⟩
def Xag.f (a0_0:Int) (a0_1:Int) (l0_2:List (S202)) (a0_3:Int) (l0_4:List Int) (a1:Int):Option (Int):=(XW.f l0_2 a1).bind fun t102=>(if t102<0 then (some (-1)) else ((XS.f a0_3 l0_4 t102).bind fun t103=>(if t103<0 then (some (-1)) else (some t103))))
theorem Xag.calls (a0_0:Int) (a0_1:Int) (A0_2:Option Addr) (c0_2:Nat) (l0_2:List (S202)) (a0_3:Int) (A0_4:Option Addr) (c0_4:Nat) (l0_4:List Int) (a1:Int) (r:Int) (w:World) (hr0_2:Kd.C k202 w A0_2 l0_2.length l0_2) (hc0_2:l0_2.length≤c0_2) (hr0_4:Kd.C (Kd.int .i64) w A0_4 l0_4.length l0_4) (hc0_4:l0_4.length≤c0_4) (h:Xag.f a0_0 a0_1 l0_2 a0_3 l0_4 a1=some r) :
  Calls Try.prog 160 #[.agg #[.int .i64 a0_0,.int .i64 a0_1,.slice A0_2 l0_2.length c0_2,.int .i64 a0_3,.slice A0_4 l0_4.length c0_4],.int .i64 a1] w fun e w'=>e = .returned (.int .i64 r)∧Below w.heap.size w w':=by
 have hu165:=Try.underlying165
 have hu51:=Try.underlying51
 have HR0_2:=Aside0.mk hr0_2
 have HC0_2:=Aside0.mk hc0_2
 clear hr0_2 hc0_2
 have HR0_4:=Aside0.mk hr0_4
 have HC0_4:=Aside0.mk hc0_4
 clear hr0_4 hc0_4
 have HB:=Aside0.mk (Below.refl w.heap.size w)
 have H:=h
 unfold Xag.f at H
 clear h
 replace H:=bE H;obtain⟨t102,A3,H⟩:=H
 go_enter Try.func160,Try.ntmps160
 go_wp2_with (first | ((with_reducible refine gate_dst (N:=2) rfl ?_);refine boxE 2 #[.int .i64 a0_0,.int .i64 a0_1,.slice A0_2 l0_2.length c0_2,.int .i64 a0_3,.slice A0_4 l0_4.length c0_4] 165 ?_;intro gbz1 hg wz1 hbox hb;have BKz1:=Aside0.mk (hbox);have GWz1:=Aside0.mk (gX' hg (hX HB.out));have GEz1:=Aside0.mk (gX' hg (hX HB.out));replace HB:=Aside0.mk (below_step (hX HB.out) hb);clear hb hbox hg;obtain⟨hczz1,hczz2,hczz3,hczz4,hczz5,hfzz1,hfzz2,hfzz3,hfzz4,hfzz5⟩:=cZ5 BKz1.out) | ((with_reducible refine gate_callee (f:=178) rfl ?_);refine goesM 178 8 Try.func178 #[.slice A0_2 l0_2.length c0_2,.int .i64 a1] ?_;refine(XW.calls _ _ l0_2 a1 t102 _ (cC HR0_2.out HB.out) HC0_2.out A3.out).mono ?_;rintro e w' ⟨rfl,⟨nd,rfl⟩⟩;refine⟨_,rfl,?_⟩;refine Stop.out ?_))
 refine⟨?_⟩
 by_cases c4:t102<0
 ·rw[if_pos c4] at H
  have c4b0:=decide_eq_true c4
  clear c4
  obtain rfl:=Option.some.inj H
  go_wp2
  go_ret
  exact⟨rE,(hX HB.out)⟩
 ·rw[if_neg c4] at H
  have c4b0:=decide_eq_false c4
  clear c4
  replace H:=bE H;obtain⟨t103,A7,H⟩:=H
  go_wp2_with (first | ((with_reducible refine gate_callee (f:=102) rfl ?_);refine goesM 102 14 Try.func102 #[.agg #[.int .i64 a0_3,.slice A0_4 l0_4.length c0_4],.int .i64 t102] ?_;refine(XS.calls a0_3 _ _ l0_4 t102 t103 _ (cC HR0_4.out HB.out) HC0_4.out A7.out).mono ?_;rintro e wz2 ⟨rfl,hb⟩;refine⟨_,rfl,?_⟩;replace BKz1:=Aside0.mk (blk_below (bX BKz1.out) hb);replace HB:=Aside0.mk (below_step (hX HB.out) hb);clear hb;refine Stop.out ?_))
  refine⟨?_⟩
  by_cases c8:t103<0
  ·rw[if_pos c8] at H
   have c8b0:=decide_eq_true c8
   clear c8
   obtain rfl:=Option.some.inj H
   go_wp2
   go_ret
   exact⟨rE,(hX HB.out)⟩
  ·rw[if_neg c8] at H
   have c8b0:=decide_eq_false c8
   clear c8
   obtain rfl:=Option.some.inj H
   go_wp2
   go_ret
   exact⟨rE,(hX HB.out)⟩
def Xi.l0:Nat→List (S139)→Int→Int→Option (Int)
 | 0,_,_,_=>none
 | k+1,x0,x1,x5=>if x5<(x0.length:Int) then (if 0≤x5 then ((XX.f ((rd_T139 x0 x5).f0) ((rd_T139 x0 x5).f1) ((rd_T139 x0 x5).f2) ((rd_T139 x0 x5).f3) ((rd_T139 x0 x5).f4) x1).bind fun t102=>(if t102<0 then (some (-1)) else (Xi.l0 k x0 t102 (wrap64 (x5+1))))) else (none)) else (some x1)
def Xi.f (k:Nat) (l0:List (S139)) (a1:Int):Option (Int):=if (wrap64 (a1 - (l0.length:Int)))<0 then (some (-1)) else (Xi.l0 k l0 (wrap64 (a1 - (l0.length:Int))) 0)
theorem Xi.calls (k:Nat) (A0:Option Addr) (c0:Nat) (l0:List (S139)) (a1:Int) (r:Int) (w:World) (hr0:Kd.C k139 w A0 l0.length l0) (hc0:l0.length≤c0) (h:Xi.f k l0 a1=some r) :
  Calls Try.prog 116 #[.slice A0 l0.length c0,.int .i64 a1] w fun e w'=>e = .returned (.int .i64 r)∧Below w.heap.size w w':=by
 have hu139:=Try.underlying139
 have HR0:=Aside0.mk hr0
 have HC0:=Aside0.mk hc0
 clear hr0 hc0
 have HB:=Aside0.mk (Below.refl w.heap.size w)
 have H:=h
 unfold Xi.f at H
 clear h
 go_enter Try.func116,Try.ntmps116
 by_cases c3:(wrap64 (a1 - (l0.length:Int)))<0
 ·rw[if_pos c3] at H
  have c3b0:=decide_eq_true c3
  clear c3
  obtain rfl:=Option.some.inj H
  go_wp2
  go_ret
  exact⟨rE,(hX HB.out)⟩
 ·rw[if_neg c3] at H
  have c3b0:=decide_eq_false c3
  clear c3
  have H':=Aside0.mk H
  clear H
  go_wp2
  go_loopg [1,5] k (fun kq v1 v5 w'=>∃ (x1_1:Int) (x5_1:Int),v1 = .int .i64 x1_1∧v5 = .int .i64 x5_1∧Aside0 (Xi.l0 kq l0 x1_1 x5_1=some r)∧Aside0 (kq≤k)∧Aside0 (Below w.heap.size w w'))
  case atStart=>exact⟨(wrap64 (a1 - (l0.length:Int))),(0),rS,rS,H',⟨Nat.le_refl _⟩,⟨(hX HB.out)⟩⟩
  case round =>
   clear H'
   try clear c1
   try clear p2
   try clear c3
   try clear c3b0
   obtain⟨x1_1,x5_1,rfl,rfl,HA,HKy1,HB⟩:=hrel
   cases gk with
   | zero=>exact absurd HA.out (by simp[Xi.l0])
   | succ k1 =>
    have H:=HA.out
    clear HA
    simp only[Xi.l0] at H
    by_cases c4:x5_1<(l0.length:Int)
    ·rw[if_pos c4] at H
     have c4b0:=decide_eq_true c4
     clear c4
     replace H:=ifP H;obtain⟨c5,H⟩:=H
     have c5b0:=decide_eq_true c5
     clear c5
     replace H:=bE H;obtain⟨t102,A6,H⟩:=H
     have px1:0≤(x5_1:Int):=of_decide_eq_true (by first | (with_reducible assumption) | assumption)
     have qx1:x5_1<(l0.length:Int):=of_decide_eq_true (by first | (with_reducible assumption) | assumption)
     obtain⟨adx1,Ax1,cx1,Ax2,cx2,Ax3,cx3,ex1,hxx1,hxx2,hxx3,hxx4,hxx5,hlx1,hix1,hlx2,hix2,hlx3,hix3⟩:=at_T139 HR0.out x5_1 px1 qx1
     cases ex1
     replace hxx1:=(HB.out.cell (World.block_lt_of_cell? w _ hxx1)).trans hxx1
     replace hxx2:=(HB.out.cell (World.block_lt_of_cell? w _ hxx2)).trans hxx2
     replace hxx3:=(HB.out.cell (World.block_lt_of_cell? w _ hxx3)).trans hxx3
     replace hxx4:=(HB.out.cell (World.block_lt_of_cell? w _ hxx4)).trans hxx4
     replace hxx5:=(HB.out.cell (World.block_lt_of_cell? w _ hxx5)).trans hxx5
     have HRx1:=Aside0.mk hix1
     have HCx1:=Aside0.mk hlx1
     clear hix1 hlx1
     have HRx2:=Aside0.mk hix2
     have HCx2:=Aside0.mk hlx2
     clear hix2 hlx2
     have HRx3:=Aside0.mk hix3
     have HCx3:=Aside0.mk hlx3
     clear hix3 hlx3
     replace px1:=eq_true px1
     replace qx1:=eq_true qx1
     go_wp2_with (first | (refine goesM 140 23 Try.func140 #[.agg #[.slice Ax1 ((rd_T139 l0 x5_1).f0).length cx1,.int .i64 ((rd_T139 l0 x5_1).f1),.bool ((rd_T139 l0 x5_1).f2),.slice Ax2 ((rd_T139 l0 x5_1).f3).length cx2,.slice Ax3 ((rd_T139 l0 x5_1).f4).length cx3],.int .i64 x1_1] ?_;refine(XX.calls _ _ ((rd_T139 l0 x5_1).f0) ((rd_T139 l0 x5_1).f1) ((rd_T139 l0 x5_1).f2) _ _ ((rd_T139 l0 x5_1).f3) _ _ ((rd_T139 l0 x5_1).f4) x1_1 t102 _ (cC HRx1.out HB.out) HCx1.out (cC HRx2.out HB.out) HCx2.out (cC HRx3.out HB.out) HCx3.out A6.out).mono ?_;rintro e wx1 ⟨rfl,hb⟩;refine⟨_,rfl,?_⟩;replace HB:=Aside0.mk (below_step (hX HB.out) hb);clear hb;refine Stop.out ?_))
     refine⟨?_⟩
     by_cases c7:t102<0
     ·rw[if_pos c7] at H
      have c7b0:=decide_eq_true c7
      clear c7
      obtain rfl:=Option.some.inj H
      go_wp2
      go_ret
      exact⟨rE,(hX HB.out)⟩
     ·rw[if_neg c7] at H
      have c7b0:=decide_eq_false c7
      clear c7
      have H':=Aside0.mk H
      clear H
      go_wp2
      go_roundg k1
      case measure=>have:=HKy1.out;omega
      case rel=>exact⟨(t102),(wrap64 (x5_1+1)),rS,rS,H',⟨by have:=HKy1.out;omega⟩,⟨(hX HB.out)⟩⟩
    ·rw[if_neg c4] at H
     have c4b0:=decide_eq_false c4
     clear c4
     obtain rfl:=Option.some.inj H
     go_wp2
     go_ret
     exact⟨rE,(hX HB.out)⟩
def Xah.f (a0_0:Int) (a0_1:Int) (a0_2:Int) (a0_3:Int) (a0_4:Int) (a0_5:Int) (a0_6:Int) (a0_7:Int) (l0_8:List Int) (a1:Int):Option (Int):=(XS.f a0_7 l0_8 a1).bind fun t102=>(if t102<0 then (some (-1)) else (some t102))
theorem Xah.calls (a0_0:Int) (a0_1:Int) (a0_2:Int) (a0_3:Int) (a0_4:Int) (a0_5:Int) (a0_6:Int) (a0_7:Int) (A0_8:Option Addr) (c0_8:Nat) (l0_8:List Int) (a1:Int) (r:Int) (w:World) (hr0_8:Kd.C (Kd.int .i64) w A0_8 l0_8.length l0_8) (hc0_8:l0_8.length≤c0_8) (h:Xah.f a0_0 a0_1 a0_2 a0_3 a0_4 a0_5 a0_6 a0_7 l0_8 a1=some r) :
  Calls Try.prog 54 #[.agg #[.int .i64 a0_0,.int .i64 a0_1,.int .i64 a0_2,.int .i64 a0_3,.int .i64 a0_4,.int .i64 a0_5,.int .i64 a0_6,.int .i64 a0_7,.slice A0_8 l0_8.length c0_8],.int .i64 a1] w fun e w'=>e = .returned (.int .i64 r)∧Below w.heap.size w w':=by
 have hu53:=Try.underlying53
 have hu51:=Try.underlying51
 have HR0_8:=Aside0.mk hr0_8
 have HC0_8:=Aside0.mk hc0_8
 clear hr0_8 hc0_8
 have HB:=Aside0.mk (Below.refl w.heap.size w)
 have H:=h
 unfold Xah.f at H
 clear h
 replace H:=bE H;obtain⟨t102,A3,H⟩:=H
 go_enter Try.func54,Try.ntmps54
 go_wp2_with (first | ((with_reducible refine gate_dst (N:=2) rfl ?_);refine boxE 2 #[.int .i64 a0_0,.int .i64 a0_1,.int .i64 a0_2,.int .i64 a0_3,.int .i64 a0_4,.int .i64 a0_5,.int .i64 a0_6,.int .i64 a0_7,.slice A0_8 l0_8.length c0_8] 53 ?_;intro gbz1 hg wz1 hbox hb;have BKz1:=Aside0.mk (hbox);have GWz1:=Aside0.mk (gX' hg (hX HB.out));have GEz1:=Aside0.mk (gX' hg (hX HB.out));replace HB:=Aside0.mk (below_step (hX HB.out) hb);clear hb hbox hg;obtain⟨hczz1,hczz2,hczz3,hczz4,hczz5,hczz6,hczz7,hczz8,hczz9,hfzz1,hfzz2,hfzz3,hfzz4,hfzz5,hfzz6,hfzz7,hfzz8,hfzz9⟩:=cZ9 BKz1.out) | ((with_reducible refine gate_callee (f:=102) rfl ?_);refine goesM 102 8 Try.func102 #[.agg #[.int .i64 a0_7,.slice A0_8 l0_8.length c0_8],.int .i64 a1] ?_;refine(XS.calls a0_7 _ _ l0_8 a1 t102 _ (cC HR0_8.out HB.out) HC0_8.out A3.out).mono ?_;rintro e wz2 ⟨rfl,hb⟩;refine⟨_,rfl,?_⟩;replace BKz1:=Aside0.mk (blk_below (bX BKz1.out) hb);replace HB:=Aside0.mk (below_step (hX HB.out) hb);clear hb;refine Stop.out ?_))
 refine⟨?_⟩
 by_cases c4:t102<0
 ·rw[if_pos c4] at H
  have c4b0:=decide_eq_true c4
  clear c4
  obtain rfl:=Option.some.inj H
  go_wp2
  go_ret
  exact⟨rE,(hX HB.out)⟩
 ·rw[if_neg c4] at H
  have c4b0:=decide_eq_false c4
  clear c4
  obtain rfl:=Option.some.inj H
  go_wp2
  go_ret
  exact⟨rE,(hX HB.out)⟩
def Xaq.f (k:Nat) (l0_0:List (S170)) (l0_1:List (S175)) (l0_2:List (S146)) (a0_3:Int) (l0_4:List (S59)) (l0_5:List Int) (l0_6:List Int) (a0_7:Int):Option ((List (S59))):=(Xk.f k l0_4).bind fun t102=>(some t102)
theorem Xaq.calls (k:Nat) (A0_0:Option Addr) (c0_0:Nat) (l0_0:List (S170)) (A0_1:Option Addr) (c0_1:Nat) (l0_1:List (S175)) (A0_2:Option Addr) (c0_2:Nat) (l0_2:List (S146)) (a0_3:Int) (A0_4:Option Addr) (c0_4:Nat) (l0_4:List (S59)) (A0_5:Option Addr) (c0_5:Nat) (l0_5:List Int) (A0_6:Option Addr) (c0_6:Nat) (l0_6:List Int) (a0_7:Int) (r:List (S59)) (w:World) (hr0_0:Kd.C k170 w A0_0 l0_0.length l0_0) (hc0_0:l0_0.length≤c0_0) (hr0_1:Kd.C k175 w A0_1 l0_1.length l0_1) (hc0_1:l0_1.length≤c0_1) (hr0_2:Kd.C k146 w A0_2 l0_2.length l0_2) (hc0_2:l0_2.length≤c0_2) (hr0_4:Kd.C k59 w A0_4 l0_4.length l0_4) (hc0_4:l0_4.length≤c0_4) (hr0_5:Kd.C (Kd.int .i64) w A0_5 l0_5.length l0_5) (hc0_5:l0_5.length≤c0_5) (hr0_6:Kd.C (Kd.int .i64) w A0_6 l0_6.length l0_6) (hc0_6:l0_6.length≤c0_6) (h:Xaq.f k l0_0 l0_1 l0_2 a0_3 l0_4 l0_5 l0_6 a0_7=some r) :
  Calls Try.prog 67 #[.agg #[.slice A0_0 l0_0.length c0_0,.slice A0_1 l0_1.length c0_1,.slice A0_2 l0_2.length c0_2,.int .i64 a0_3,.slice A0_4 l0_4.length c0_4,.slice A0_5 l0_5.length c0_5,.slice A0_6 l0_6.length c0_6,.int .i64 a0_7]] w fun e w'=>∃ v0_:Value,e = .returned (v0_)∧Kd.S k59 59 w' w.heap.size (fun _=>True) v0_ r∧Below w.heap.size w w':=by
 have hu87:=Try.underlying87
 have HR0_0:=Aside0.mk hr0_0
 have HC0_0:=Aside0.mk hc0_0
 clear hr0_0 hc0_0
 have HR0_1:=Aside0.mk hr0_1
 have HC0_1:=Aside0.mk hc0_1
 clear hr0_1 hc0_1
 have HR0_2:=Aside0.mk hr0_2
 have HC0_2:=Aside0.mk hc0_2
 clear hr0_2 hc0_2
 have HR0_4:=Aside0.mk hr0_4
 have HC0_4:=Aside0.mk hc0_4
 clear hr0_4 hc0_4
 have HR0_5:=Aside0.mk hr0_5
 have HC0_5:=Aside0.mk hc0_5
 clear hr0_5 hc0_5
 have HR0_6:=Aside0.mk hr0_6
 have HC0_6:=Aside0.mk hc0_6
 clear hr0_6 hc0_6
 have HB:=Aside0.mk (Below.refl w.heap.size w)
 have H:=h
 unfold Xaq.f at H
 clear h
 replace H:=bE H;obtain⟨t102,A2,H⟩:=H
 obtain rfl:=Option.some.inj H
 go_enter Try.func67,Try.ntmps67
 go_wp2_with (first | ((with_reducible refine gate_dst (N:=1) rfl ?_);refine boxE 1 #[.slice A0_0 l0_0.length c0_0,.slice A0_1 l0_1.length c0_1,.slice A0_2 l0_2.length c0_2,.int .i64 a0_3,.slice A0_4 l0_4.length c0_4,.slice A0_5 l0_5.length c0_5,.slice A0_6 l0_6.length c0_6,.int .i64 a0_7] 87 ?_;intro gbz1 hg wz1 hbox hb;have BKz1:=Aside0.mk (hbox);have GWz1:=Aside0.mk (gX' hg (hX HB.out));have GEz1:=Aside0.mk (gX' hg (hX HB.out));replace HB:=Aside0.mk (below_step (hX HB.out) hb);clear hb hbox hg;obtain⟨hczz1,hczz2,hczz3,hczz4,hczz5,hczz6,hczz7,hczz8,hfzz1,hfzz2,hfzz3,hfzz4,hfzz5,hfzz6,hfzz7,hfzz8⟩:=cZ8 BKz1.out) | ((with_reducible refine gate_callee (f:=108) rfl ?_);refine goesM 108 5 Try.func108 #[.slice A0_4 l0_4.length c0_4] ?_;refine(Xk.calls k _ _ l0_4 t102 _ (cC HR0_4.out HB.out) HC0_4.out A2.out).mono ?_;rintro e wz2 ⟨vz1,rfl,hoz1,hb⟩;refine⟨_,rfl,?_⟩;have HOz1:=Aside0.mk (Kd.S_lower hoz1 (below_size (hX HB.out)));replace BKz1:=Aside0.mk (blk_below (bX BKz1.out) hb);replace HB:=Aside0.mk (below_step (hX HB.out) hb);clear hb hoz1))
 go_ret
 exact⟨_,rE,(sX HOz1.out),(hX HB.out)⟩
def Xai.f (k:Nat) (a0_0:Int) (a0_1:Int) (l0_2:List (S202)) (a0_3:Int) (l0_4:List Int):Option (Int × Int × (List (S200)) × Int × List Int):=(Xt.f k l0_2).bind fun t104=>((XZ.f k a0_3 l0_4).bind fun bt107=>(some (a0_0,a0_1,t104,bt107.1,bt107.2)))
theorem Xai.calls (k:Nat) (a0_0:Int) (a0_1:Int) (A0_2:Option Addr) (c0_2:Nat) (l0_2:List (S202)) (a0_3:Int) (A0_4:Option Addr) (c0_4:Nat) (l0_4:List Int) (r1:Int) (r2:Int) (r3:List (S200)) (r4:Int) (r5:List Int) (w:World) (hr0_2:Kd.C k202 w A0_2 l0_2.length l0_2) (hc0_2:l0_2.length≤c0_2) (hr0_4:Kd.C (Kd.int .i64) w A0_4 l0_4.length l0_4) (hc0_4:l0_4.length≤c0_4) (h:Xai.f k a0_0 a0_1 l0_2 a0_3 l0_4=some (r1,r2,r3,r4,r5)) :
  Calls Try.prog 165 #[.agg #[.int .i64 a0_0,.int .i64 a0_1,.slice A0_2 l0_2.length c0_2,.int .i64 a0_3,.slice A0_4 l0_4.length c0_4]] w fun e w'=>∃ v2_ v4_:Value,e = .returned (.agg #[.int .i64 r1,.int .i64 r2,v2_,.int .i64 r4,v4_])∧Kd.R k200 200 w' w.heap.size (fun _=>True) v2_ r3∧Kd.R (Kd.int .i64) 3 w' w.heap.size (fun _=>True) v4_ r5∧Below w.heap.size w w':=by
 have hu165:=Try.underlying165
 have hu175:=Try.underlying175
 have hu51:=Try.underlying51
 have hu57:=Try.underlying57
 have HR0_2:=Aside0.mk hr0_2
 have HC0_2:=Aside0.mk hc0_2
 clear hr0_2 hc0_2
 have HR0_4:=Aside0.mk hr0_4
 have HC0_4:=Aside0.mk hc0_4
 clear hr0_4 hc0_4
 have HB:=Aside0.mk (Below.refl w.heap.size w)
 have H:=h
 unfold Xai.f at H
 clear h
 replace H:=bE H;obtain⟨t104,A2,H⟩:=H
 replace H:=bE H;obtain⟨⟨t107,t108⟩,A3,H⟩:=H
 try dsimp only at H
 simp only[Option.some.injEq,Prod.mk.injEq] at H
 obtain⟨rfl,rfl,rfl,rfl,rfl⟩:=H
 go_enter Try.func165,Try.ntmps165
 go_wp2_with (first | ((with_reducible refine gate_dst (N:=1) rfl ?_);refine boxE 1 #[.int .i64 a0_0,.int .i64 a0_1,.slice A0_2 l0_2.length c0_2,.int .i64 a0_3,.slice A0_4 l0_4.length c0_4] 165 ?_;intro gbz1 hg wz1 hbox hb;have BKz1:=Aside0.mk (hbox);have GWz1:=Aside0.mk (gX' hg (hX HB.out));have GEz1:=Aside0.mk (gX' hg (hX HB.out));replace HB:=Aside0.mk (below_step (hX HB.out) hb);clear hb hbox hg) | ((with_reducible refine gate_dst (N:=2) rfl ?_);refine boxE 2 #[.int .i64 0,.int .i64 0,.slice none 0 0,.int .i64 0,.slice none 0 0] 175 ?_;intro gbz2 hg wz2 hbox hb;have BKz2:=Aside0.mk (hbox);have GWz2:=Aside0.mk (gX' hg (hX HB.out));have GEz2:=Aside0.mk (gX' hg (hX HB.out));have NBz1:=Aside0.mk (gL hg (bX BKz1.out));have NBz2:=Aside0.mk (gG hg (bX BKz1.out));replace BKz1:=Aside0.mk (blk_below (bX BKz1.out) hb);replace HB:=Aside0.mk (below_step (hX HB.out) hb);clear hb hbox hg) | ((with_reducible refine gate_dst (N:=3) rfl ?_);refine boxE 3 #[.int .i64 0,.int .i64 0,.slice none 0 0,.int .i64 0,.slice none 0 0] 175 ?_;intro gbz3 hg wz3 hbox hb;have BKz3:=Aside0.mk (hbox);have GWz3:=Aside0.mk (gX' hg (hX HB.out));have GEz3:=Aside0.mk (gX' hg (hX HB.out));have NBz3:=Aside0.mk (gL hg (bX BKz1.out));have NBz4:=Aside0.mk (gG hg (bX BKz1.out));have NBz5:=Aside0.mk (gL hg (bX BKz2.out));have NBz6:=Aside0.mk (gG hg (bX BKz2.out));replace BKz1:=Aside0.mk (blk_below (bX BKz1.out) hb);replace BKz2:=Aside0.mk (blk_below (bX BKz2.out) hb);replace HB:=Aside0.mk (below_step (hX HB.out) hb);clear hb hbox hg;have hnbz1:=NBz1.out;have hncz1:=NBz2.out;have hnbz2:=NBz3.out;have hncz2:=NBz4.out;obtain⟨hczz1,hczz2,hczz3,hczz4,hczz5,hfzz1,hfzz2,hfzz3,hfzz4,hfzz5⟩:=cZ5 BKz1.out;have hnbz3:=NBz6.out;have hncz3:=NBz5.out;obtain⟨hczz6,hczz7,hczz8,hczz9,hczz10,hfzz6,hfzz7,hfzz8,hfzz9,hfzz10⟩:=cZ5 BKz3.out) | ((with_reducible refine gate_callee (f:=179) rfl ?_);refine goesM 179 12 Try.func179 #[.slice A0_2 l0_2.length c0_2] ?_;refine(Xt.calls k _ _ l0_2 t104 _ (by exact Kd.C_below HR0_2.out (hX HB.out)) HC0_2.out A2.out).mono ?_;rintro e wz4 ⟨vz1,rfl,hoz1,hb⟩;refine⟨_,rfl,?_⟩;have HOz1:=Aside0.mk (Kd.R_lower hoz1 (below_size (hX HB.out)));replace BKz1:=Aside0.mk (blk_below (bF BKz1.out) hb);replace BKz2:=Aside0.mk (blk_below (bF BKz2.out) hb);replace BKz3:=Aside0.mk (blk_below (g:=gbz3) (o:=.cells #[.int .i64 a0_0,.int .i64 a0_1,.slice none 0 0,.int .i64 0,.slice none 0 0] 175 (0,0)) (bP BKz3.out) hb);replace HB:=Aside0.mk (below_step (hX HB.out) hb);clear hb hoz1;obtain⟨Aoz1,coz1,eoz1⟩:=Kd.R_slice HOz1.out;subst eoz1;obtain⟨hczz11,hczz12,hczz13,hczz14,hczz15,hfzz11,hfzz12,hfzz13,hfzz14,hfzz15⟩:=cZ5 BKz3.out;obtain⟨hczz16,hczz17,hczz18,hczz19,hczz20,hfzz16,hfzz17,hfzz18,hfzz19,hfzz20⟩:=cZ5 BKz1.out) | ((with_reducible refine gate_callee (f:=104) rfl ?_);refine goesM 104 16 Try.func104 #[.agg #[.int .i64 a0_3,.slice A0_4 l0_4.length c0_4]] ?_;refine(XZ.calls k a0_3 _ _ l0_4 t107 t108 _ (by exact Kd.C_below HR0_4.out (hX HB.out)) HC0_4.out A3.out).mono ?_;rintro e wz5 ⟨vz2,rfl,hoz1,hb⟩;refine⟨_,rfl,?_⟩;have HOz2:=Aside0.mk (Kd.R_lower hoz1 (below_size (hX HB.out)));replace HOz1:=Aside0.mk (Kd.R_below (rT (h:=by exact(Kd.R_mono (Kd.R_far (p:=⟨gbz3,2,none⟩) (Kd.R_types HOz1.out BKz3.out (by decide)) (fun _ hk=>hk.2) (.slice Aoz1 t104.length coz1)) (fun _ h_=>h_.1)))) hb);replace BKz1:=Aside0.mk (blk_below (bF BKz1.out) hb);replace BKz2:=Aside0.mk (blk_below (bF BKz2.out) hb);replace BKz3:=Aside0.mk (blk_below (g:=gbz3) (o:=.cells #[.int .i64 a0_0,.int .i64 a0_1,.slice Aoz1 t104.length coz1,.int .i64 0,.slice none 0 0] 175 (0,0)) (bP BKz3.out) hb);replace HB:=Aside0.mk (below_step (hX HB.out) hb);clear hb hoz1;obtain⟨hczz21,hczz22,hczz23,hczz24,hczz25,hfzz21,hfzz22,hfzz23,hfzz24,hfzz25⟩:=cZ5 BKz3.out;obtain⟨Aoz2,coz2,eoz2⟩:=Kd.R_slice HOz2.out;subst eoz2;obtain⟨hczz26,hczz27,hczz28,hczz29,hczz30,hfzz26,hfzz27,hfzz28,hfzz29,hfzz30⟩:=cZ5 BKz2.out))
 refine bodyPost_ret (results_cell_row rfl _ _ gbz2 175 #[.int .i64 a0_0,.int .i64 a0_1,.slice Aoz1 t104.length coz1,.int .i64 t107,.slice Aoz2 t108.length coz2] (0,0) _ rfl (bP BKz2.out) Try.underlying175 rfl (by kernel_rfl)) rfl ?_
 exact⟨_,_,rE,(rT (h:=by exact Kd.R_mono (Kd.R_far (p:=⟨gbz2,4,none⟩) (Kd.R_far (p:=⟨gbz2,3,none⟩) (Kd.R_far (p:=⟨gbz2,2,none⟩) (Kd.R_far (p:=⟨gbz2,1,none⟩) (Kd.R_far (p:=⟨gbz2,0,none⟩) (Kd.R_far (p:=⟨gbz3,4,none⟩) (Kd.R_far (p:=⟨gbz3,3,none⟩) (Kd.R_types (Kd.R_types HOz1.out BKz3.out (by decide)) BKz2.out (by decide)) (fun _ hk=>hk.1.2) (.int .i64 t107)) (fun _ hk=>hk.1.2) (.slice Aoz2 t108.length coz2)) (fun _ hk=>hk.2) (.int .i64 a0_0)) (fun _ hk=>hk.2) (.int .i64 a0_1)) (fun _ hk=>hk.2) (.slice Aoz1 t104.length coz1)) (fun _ hk=>hk.2) (.int .i64 t107)) (fun _ hk=>hk.2) (.slice Aoz2 t108.length coz2)) (fun _ hk=>trivial))),(rT (h:=by exact Kd.R_mono (Kd.R_far (p:=⟨gbz2,4,none⟩) (Kd.R_far (p:=⟨gbz2,3,none⟩) (Kd.R_far (p:=⟨gbz2,2,none⟩) (Kd.R_far (p:=⟨gbz2,1,none⟩) (Kd.R_far (p:=⟨gbz2,0,none⟩) (Kd.R_far (p:=⟨gbz3,4,none⟩) (Kd.R_far (p:=⟨gbz3,3,none⟩) (Kd.R_types (Kd.R_types HOz2.out BKz3.out (by decide)) BKz2.out (by decide)) (fun _ hk=>hk.1.2) (.int .i64 t107)) (fun _ hk=>hk.1.2) (.slice Aoz2 t108.length coz2)) (fun _ hk=>hk.2) (.int .i64 a0_0)) (fun _ hk=>hk.2) (.int .i64 a0_1)) (fun _ hk=>hk.2) (.slice Aoz1 t104.length coz1)) (fun _ hk=>hk.2) (.int .i64 t107)) (fun _ hk=>hk.2) (.slice Aoz2 t108.length coz2)) (fun _ hk=>trivial))),(hX HB.out)⟩
def XY.f (k:Nat) (l0_0:List (S49)) (a0_1:Int) (a0_2:Bool) (l0_3:List (S193)) (l0_4:List (S195)):Option ((List (S56)) × Int × Bool × (List (S187)) × (List (S189))):=(XK.f k l0_0).bind fun t104=>((XB.f k l0_3).bind fun t107=>((XC.f k l0_4).bind fun t110=>(some (t104,a0_1,a0_2,t107,t110))))
theorem XY.calls (k:Nat) (A0_0:Option Addr) (c0_0:Nat) (l0_0:List (S49)) (a0_1:Int) (a0_2:Bool) (A0_3:Option Addr) (c0_3:Nat) (l0_3:List (S193)) (A0_4:Option Addr) (c0_4:Nat) (l0_4:List (S195)) (r1:List (S56)) (r2:Int) (r3:Bool) (r4:List (S187)) (r5:List (S189)) (w:World) (hr0_0:Kd.C k49 w A0_0 l0_0.length l0_0) (hc0_0:l0_0.length≤c0_0) (hr0_3:Kd.C k193 w A0_3 l0_3.length l0_3) (hc0_3:l0_3.length≤c0_3) (hr0_4:Kd.C k195 w A0_4 l0_4.length l0_4) (hc0_4:l0_4.length≤c0_4) (h:XY.f k l0_0 a0_1 a0_2 l0_3 l0_4=some (r1,r2,r3,r4,r5)) :
  Calls Try.prog 143 #[.agg #[.slice A0_0 l0_0.length c0_0,.int .i64 a0_1,.bool a0_2,.slice A0_3 l0_3.length c0_3,.slice A0_4 l0_4.length c0_4]] w fun e w'=>∃ v0_ v3_ v4_:Value,e = .returned (.agg #[v0_,.int .i64 r2,.bool r3,v3_,v4_])∧Kd.R k56 56 w' w.heap.size (fun _=>True) v0_ r1∧Kd.R k187 187 w' w.heap.size (fun _=>True) v3_ r4∧Kd.R k189 189 w' w.heap.size (fun _=>True) v4_ r5∧Below w.heap.size w w':=by
 have hu139:=Try.underlying139
 have hu146:=Try.underlying146
 have HR0_0:=Aside0.mk hr0_0
 have HC0_0:=Aside0.mk hc0_0
 clear hr0_0 hc0_0
 have HR0_3:=Aside0.mk hr0_3
 have HC0_3:=Aside0.mk hc0_3
 clear hr0_3 hc0_3
 have HR0_4:=Aside0.mk hr0_4
 have HC0_4:=Aside0.mk hc0_4
 clear hr0_4 hc0_4
 have HB:=Aside0.mk (Below.refl w.heap.size w)
 have H:=h
 unfold XY.f at H
 clear h
 replace H:=bE H;obtain⟨t104,A2,H⟩:=H
 replace H:=bE H;obtain⟨t107,A3,H⟩:=H
 replace H:=bE H;obtain⟨t110,A4,H⟩:=H
 simp only[Option.some.injEq,Prod.mk.injEq] at H
 obtain⟨rfl,rfl,rfl,rfl,rfl⟩:=H
 go_enter Try.func143,Try.ntmps143
 go_wp2_with (first | ((with_reducible refine gate_dst (N:=1) rfl ?_);refine boxE 1 #[.slice A0_0 l0_0.length c0_0,.int .i64 a0_1,.bool a0_2,.slice A0_3 l0_3.length c0_3,.slice A0_4 l0_4.length c0_4] 139 ?_;intro gbz1 hg wz1 hbox hb;have BKz1:=Aside0.mk (hbox);have GWz1:=Aside0.mk (gX' hg (hX HB.out));have GEz1:=Aside0.mk (gX' hg (hX HB.out));replace HB:=Aside0.mk (below_step (hX HB.out) hb);clear hb hbox hg) | ((with_reducible refine gate_dst (N:=2) rfl ?_);refine boxE 2 #[.slice none 0 0,.int .i64 0,.bool false,.slice none 0 0,.slice none 0 0] 146 ?_;intro gbz2 hg wz2 hbox hb;have BKz2:=Aside0.mk (hbox);have GWz2:=Aside0.mk (gX' hg (hX HB.out));have GEz2:=Aside0.mk (gX' hg (hX HB.out));have NBz1:=Aside0.mk (gL hg (bX BKz1.out));have NBz2:=Aside0.mk (gG hg (bX BKz1.out));replace BKz1:=Aside0.mk (blk_below (bX BKz1.out) hb);replace HB:=Aside0.mk (below_step (hX HB.out) hb);clear hb hbox hg) | ((with_reducible refine gate_dst (N:=3) rfl ?_);refine boxE 3 #[.slice none 0 0,.int .i64 0,.bool false,.slice none 0 0,.slice none 0 0] 146 ?_;intro gbz3 hg wz3 hbox hb;have BKz3:=Aside0.mk (hbox);have GWz3:=Aside0.mk (gX' hg (hX HB.out));have GEz3:=Aside0.mk (gX' hg (hX HB.out));have NBz3:=Aside0.mk (gL hg (bX BKz1.out));have NBz4:=Aside0.mk (gG hg (bX BKz1.out));have NBz5:=Aside0.mk (gL hg (bX BKz2.out));have NBz6:=Aside0.mk (gG hg (bX BKz2.out));replace BKz1:=Aside0.mk (blk_below (bX BKz1.out) hb);replace BKz2:=Aside0.mk (blk_below (bX BKz2.out) hb);replace HB:=Aside0.mk (below_step (hX HB.out) hb);clear hb hbox hg;have hnbz1:=NBz1.out;have hncz1:=NBz2.out;have hnbz2:=NBz3.out;have hncz2:=NBz4.out;obtain⟨hczz1,hczz2,hczz3,hczz4,hczz5,hfzz1,hfzz2,hfzz3,hfzz4,hfzz5⟩:=cZ5 BKz1.out) | ((with_reducible refine gate_callee (f:=166) rfl ?_);refine goesM 166 6 Try.func166 #[.slice A0_0 l0_0.length c0_0] ?_;refine(XK.calls k _ _ l0_0 t104 _ (cC HR0_0.out HB.out) HC0_0.out A2.out).mono ?_;rintro e wz4 ⟨vz1,rfl,hoz1,hb⟩;refine⟨_,rfl,?_⟩;have HOz1:=Aside0.mk (Kd.R_lower hoz1 (below_size (hX HB.out)));replace BKz1:=Aside0.mk (blk_below (bX BKz1.out) hb);replace BKz2:=Aside0.mk (blk_below (bX BKz2.out) hb);replace BKz3:=Aside0.mk (blk_below (bX BKz3.out) hb);replace HB:=Aside0.mk (below_step (hX HB.out) hb);clear hb hoz1;obtain⟨Aoz1,coz1,eoz1⟩:=Kd.R_slice HOz1.out;subst eoz1;have hnbz3:=NBz6.out;have hncz3:=NBz5.out;obtain⟨hczz6,hczz7,hczz8,hczz9,hczz10,hfzz6,hfzz7,hfzz8,hfzz9,hfzz10⟩:=cZ5 BKz3.out;obtain⟨hczz11,hczz12,hczz13,hczz14,hczz15,hfzz11,hfzz12,hfzz13,hfzz14,hfzz15⟩:=cZ5 BKz1.out) | ((with_reducible refine gate_callee (f:=167) rfl ?_);refine goesM 167 16 Try.func167 #[.slice A0_3 l0_3.length c0_3] ?_;refine(XB.calls k _ _ l0_3 t107 _ (by exact Kd.C_below HR0_3.out (hX HB.out)) HC0_3.out A3.out).mono ?_;rintro e wz5 ⟨vz2,rfl,hoz1,hb⟩;refine⟨_,rfl,?_⟩;have HOz2:=Aside0.mk (Kd.R_lower hoz1 (below_size (hX HB.out)));replace HOz1:=Aside0.mk (Kd.R_below (rT (h:=by exact(Kd.R_mono (Kd.R_far (p:=⟨gbz3,2,none⟩) (Kd.R_far (p:=⟨gbz3,1,none⟩) (Kd.R_far (p:=⟨gbz3,0,none⟩) (Kd.R_types HOz1.out BKz3.out (by decide)) (fun _ hk=>hk.2) (.slice Aoz1 t104.length coz1)) (fun _ hk=>hk.2) (.int .i64 a0_1)) (fun _ hk=>hk.2) (.bool a0_2)) (fun _ h_=>h_.1)))) hb);replace BKz1:=Aside0.mk (blk_below (bF BKz1.out) hb);replace BKz2:=Aside0.mk (blk_below (bF BKz2.out) hb);replace BKz3:=Aside0.mk (blk_below (g:=gbz3) (o:=.cells #[.slice Aoz1 t104.length coz1,.int .i64 a0_1,.bool a0_2,.slice none 0 0,.slice none 0 0] 146 (0,0)) (bP BKz3.out) hb);replace HB:=Aside0.mk (below_step (hX HB.out) hb);clear hb hoz1;obtain⟨Aoz2,coz2,eoz2⟩:=Kd.R_slice HOz2.out;subst eoz2;obtain⟨hczz16,hczz17,hczz18,hczz19,hczz20,hfzz16,hfzz17,hfzz18,hfzz19,hfzz20⟩:=cZ5 BKz3.out;obtain⟨hczz21,hczz22,hczz23,hczz24,hczz25,hfzz21,hfzz22,hfzz23,hfzz24,hfzz25⟩:=cZ5 BKz1.out) | ((with_reducible refine gate_callee (f:=168) rfl ?_);refine goesM 168 20 Try.func168 #[.slice A0_4 l0_4.length c0_4] ?_;refine(XC.calls k _ _ l0_4 t110 _ (by exact Kd.C_below HR0_4.out (hX HB.out)) HC0_4.out A4.out).mono ?_;rintro e wz6 ⟨vz3,rfl,hoz1,hb⟩;refine⟨_,rfl,?_⟩;have HOz3:=Aside0.mk (Kd.R_lower hoz1 (below_size (hX HB.out)));replace HOz1:=Aside0.mk (Kd.R_below (rT (h:=by exact(Kd.R_mono (Kd.R_far (p:=⟨gbz3,3,none⟩) (Kd.R_types HOz1.out BKz3.out (by decide)) (fun _ hk=>hk.2) (.slice Aoz2 t107.length coz2)) (fun _ h_=>h_.1)))) hb);replace HOz2:=Aside0.mk (Kd.R_below (rT (h:=by exact(Kd.R_mono (Kd.R_far (p:=⟨gbz3,3,none⟩) (Kd.R_types HOz2.out BKz3.out (by decide)) (fun _ hk=>hk.2) (.slice Aoz2 t107.length coz2)) (fun _ h_=>h_.1)))) hb);replace BKz1:=Aside0.mk (blk_below (bF BKz1.out) hb);replace BKz2:=Aside0.mk (blk_below (bF BKz2.out) hb);replace BKz3:=Aside0.mk (blk_below (g:=gbz3) (o:=.cells #[.slice Aoz1 t104.length coz1,.int .i64 a0_1,.bool a0_2,.slice Aoz2 t107.length coz2,.slice none 0 0] 146 (0,0)) (bP BKz3.out) hb);replace HB:=Aside0.mk (below_step (hX HB.out) hb);clear hb hoz1;obtain⟨Aoz3,coz3,eoz3⟩:=Kd.R_slice HOz3.out;subst eoz3;obtain⟨hczz26,hczz27,hczz28,hczz29,hczz30,hfzz26,hfzz27,hfzz28,hfzz29,hfzz30⟩:=cZ5 BKz3.out;obtain⟨hczz31,hczz32,hczz33,hczz34,hczz35,hfzz31,hfzz32,hfzz33,hfzz34,hfzz35⟩:=cZ5 BKz2.out))
 refine bodyPost_ret (results_cell_row rfl _ _ gbz2 146 #[.slice Aoz1 t104.length coz1,.int .i64 a0_1,.bool a0_2,.slice Aoz2 t107.length coz2,.slice Aoz3 t110.length coz3] (0,0) _ rfl (bP BKz2.out) Try.underlying146 rfl (by kernel_rfl)) rfl ?_
 exact⟨_,_,_,rE,(rT (h:=by exact Kd.R_mono (Kd.R_far (p:=⟨gbz2,4,none⟩) (Kd.R_far (p:=⟨gbz2,3,none⟩) (Kd.R_far (p:=⟨gbz2,2,none⟩) (Kd.R_far (p:=⟨gbz2,1,none⟩) (Kd.R_far (p:=⟨gbz2,0,none⟩) (Kd.R_far (p:=⟨gbz3,4,none⟩) (Kd.R_types (Kd.R_types HOz1.out BKz3.out (by decide)) BKz2.out (by decide)) (fun _ hk=>hk.1.2) (.slice Aoz3 t110.length coz3)) (fun _ hk=>hk.2) (.slice Aoz1 t104.length coz1)) (fun _ hk=>hk.2) (.int .i64 a0_1)) (fun _ hk=>hk.2) (.bool a0_2)) (fun _ hk=>hk.2) (.slice Aoz2 t107.length coz2)) (fun _ hk=>hk.2) (.slice Aoz3 t110.length coz3)) (fun _ hk=>trivial))),(rT (h:=by exact Kd.R_mono (Kd.R_far (p:=⟨gbz2,4,none⟩) (Kd.R_far (p:=⟨gbz2,3,none⟩) (Kd.R_far (p:=⟨gbz2,2,none⟩) (Kd.R_far (p:=⟨gbz2,1,none⟩) (Kd.R_far (p:=⟨gbz2,0,none⟩) (Kd.R_far (p:=⟨gbz3,4,none⟩) (Kd.R_types (Kd.R_types HOz2.out BKz3.out (by decide)) BKz2.out (by decide)) (fun _ hk=>hk.1.2) (.slice Aoz3 t110.length coz3)) (fun _ hk=>hk.2) (.slice Aoz1 t104.length coz1)) (fun _ hk=>hk.2) (.int .i64 a0_1)) (fun _ hk=>hk.2) (.bool a0_2)) (fun _ hk=>hk.2) (.slice Aoz2 t107.length coz2)) (fun _ hk=>hk.2) (.slice Aoz3 t110.length coz3)) (fun _ hk=>trivial))),(rT (h:=by exact Kd.R_mono (Kd.R_far (p:=⟨gbz2,4,none⟩) (Kd.R_far (p:=⟨gbz2,3,none⟩) (Kd.R_far (p:=⟨gbz2,2,none⟩) (Kd.R_far (p:=⟨gbz2,1,none⟩) (Kd.R_far (p:=⟨gbz2,0,none⟩) (Kd.R_far (p:=⟨gbz3,4,none⟩) (Kd.R_types (Kd.R_types HOz3.out BKz3.out (by decide)) BKz2.out (by decide)) (fun _ hk=>hk.1.2) (.slice Aoz3 t110.length coz3)) (fun _ hk=>hk.2) (.slice Aoz1 t104.length coz1)) (fun _ hk=>hk.2) (.int .i64 a0_1)) (fun _ hk=>hk.2) (.bool a0_2)) (fun _ hk=>hk.2) (.slice Aoz2 t107.length coz2)) (fun _ hk=>hk.2) (.slice Aoz3 t110.length coz3)) (fun _ hk=>trivial))),(hX HB.out)⟩
end Go.Proofs.Yteamagejhbkhnaa.P
