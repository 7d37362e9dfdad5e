/- A part of the proof of the law FnExactTold: texts of this seat, merged (words, printed functions of the program, plain lemmas). Conditions: none of its own. -/
import Derived.Test.YteamagejhbkhnaaPkFnExactTold13
import Derived.Test.YteamagejhbkhnaaPkFnExactTold26
set_option linter.unusedSimpArgs false
set_option linter.unusedVariables false
set_option maxHeartbeats 8000000
set_option maxRecDepth 100000
namespace Go.Proofs.Yteamagejhbkhnaa.P
open Go.Proofs.YteamagejhbkhnaaZ Go.RowKit Go.Proofs.YteamagejhbkhnaaW.PrintWords Go.Proofs.YteamagejhbkhnaaW.PrintLast Go.Proofs.YteamagejhbkhnaaW.PrintMore
def XL.g (k:Nat) (l0_0:List (S172)) (l0_1:List (S165)) (l0_2:List (S139)) (a0_3:Int) (l0_4:List (S53)) (l0_5:List Int) (l0_6:List Int) (a0_7:Int) (v:List (S59)) (z:Int × List (S59)):Option (Bool):=(Xn.f k z.2 1).bind fun q=>if q<0 then some false else if q=z.1 then ((Xy.f k l0_0 l0_1 l0_2 a0_3 l0_4 l0_5 l0_6 a0_7).bind fun h=>(XG.f k h.1 h.2.1 h.2.2.1 h.2.2.2.1 h.2.2.2.2.1 h.2.2.2.2.2.1 h.2.2.2.2.2.2.1 h.2.2.2.2.2.2.2).bind fun g=>(Xa.f k g v).bind fun e=>if e=true then ((Xn.f k z.2 1).bind fun q2=>if q2<0 then some false else if q2=z.1 then some true else some false) else some false) else some false
def XL.f (k:Nat) (l0_0:List (S172)) (l0_1:List (S165)) (l0_2:List (S139)) (a0_3:Int) (l0_4:List (S53)) (l0_5:List Int) (l0_6:List Int) (a0_7:Int):Option (Bool):=(XO.f k l0_0 l0_1 l0_2 a0_3 l0_4 l0_5 l0_6 a0_7 1048576).bind fun s=>if s<0 then some true else (Xy.f k l0_0 l0_1 l0_2 a0_3 l0_4 l0_5 l0_6 a0_7).bind fun p=>(Xaq.f k p.1 p.2.1 p.2.2.1 p.2.2.2.1 p.2.2.2.2.1 p.2.2.2.2.2.1 p.2.2.2.2.2.2.1 p.2.2.2.2.2.2.2).bind fun v=>(Xy.f k l0_0 l0_1 l0_2 a0_3 l0_4 l0_5 l0_6 a0_7).bind fun x=>(XG.f k x.1 x.2.1 x.2.2.1 x.2.2.2.1 x.2.2.2.2.1 x.2.2.2.2.2.1 x.2.2.2.2.2.2.1 x.2.2.2.2.2.2.2).bind fun g=>(Xa.f k g v).bind fun e=>if e=true then ((Xy.f k l0_0 l0_1 l0_2 a0_3 l0_4 l0_5 l0_6 a0_7).bind fun y=>(XU.f k x.1 x.2.1 x.2.2.1 x.2.2.2.1 x.2.2.2.2.1 x.2.2.2.2.2.1 x.2.2.2.2.2.2.1 x.2.2.2.2.2.2.2 y.1 y.2.1 y.2.2.1 y.2.2.2.1 y.2.2.2.2.1 y.2.2.2.2.2.1 y.2.2.2.2.2.2.1 y.2.2.2.2.2.2.2).bind fun e2=>if e2=true then ((XI.f k x.1 x.2.1 x.2.2.1 x.2.2.2.1 x.2.2.2.2.1 x.2.2.2.2.2.1 x.2.2.2.2.2.2.1 x.2.2.2.2.2.2.2 1).bind fun m=>if m<0 then some false else (Xa.f k g v).bind fun e3=>if e3=true then ((Xo.f k g 1).bind fun z=>XL.g k l0_0 l0_1 l0_2 a0_3 l0_4 l0_5 l0_6 a0_7 v z) else some false) else some false) else some false
set_option maxHeartbeats 3000000 in
theorem XL.calls (k:Nat) (A0_0:Option Addr) (c0_0:Nat) (l0_0:List (S172)) (A0_1:Option Addr) (c0_1:Nat) (l0_1:List (S165)) (A0_2:Option Addr) (c0_2:Nat) (l0_2:List (S139)) (a0_3:Int) (A0_4:Option Addr) (c0_4:Nat) (l0_4:List (S53)) (A0_5:Option Addr) (c0_5:Nat) (l0_5:List Int) (A0_6:Option Addr) (c0_6:Nat) (l0_6:List Int) (a0_7:Int) (r:Bool) (w:World) (hr0_0:Kd.C k172 w A0_0 l0_0.length l0_0) (hc0_0:l0_0.length≤c0_0) (hr0_1:Kd.C k165 w A0_1 l0_1.length l0_1) (hc0_1:l0_1.length≤c0_1) (hr0_2:Kd.C k139 w A0_2 l0_2.length l0_2) (hc0_2:l0_2.length≤c0_2) (hr0_4:Kd.C k53 w A0_4 l0_4.length l0_4) (hc0_4:l0_4.length≤c0_4) (hr0_5:Kd.C (Kd.int .i64) w A0_5 l0_5.length l0_5) (hc0_5:l0_5.length≤c0_5) (hr0_6:Kd.C (Kd.int .i64) w A0_6 l0_6.length l0_6) (hc0_6:l0_6.length≤c0_6) (h:XL.f k l0_0 l0_1 l0_2 a0_3 l0_4 l0_5 l0_6 a0_7=some r) (hrt:r=true:=by rfl) :
  Calls Try.prog 12 #[.agg #[.slice A0_0 l0_0.length c0_0,.slice A0_1 l0_1.length c0_1,.slice A0_2 l0_2.length c0_2,.int .i64 a0_3,.slice A0_4 l0_4.length c0_4,.slice A0_5 l0_5.length c0_5,.slice A0_6 l0_6.length c0_6,.int .i64 a0_7]] w fun e w'=>e = .returned (.bool r)∧Below w.heap.size w w':=by
 subst hrt
 have hu78:=Try.underlying78
 have hu87:=Try.underlying87
 have HR0_0:=aM hr0_0
 have HC0_0:=aM hc0_0
 clear hr0_0 hc0_0
 have HR0_1:=aM hr0_1
 have HC0_1:=aM hc0_1
 clear hr0_1 hc0_1
 have HR0_2:=aM hr0_2
 have HC0_2:=aM hc0_2
 clear hr0_2 hc0_2
 have HR0_4:=aM hr0_4
 have HC0_4:=aM hc0_4
 clear hr0_4 hc0_4
 have HR0_5:=aM hr0_5
 have HC0_5:=aM hc0_5
 clear hr0_5 hc0_5
 have HR0_6:=aM hr0_6
 have HC0_6:=aM hc0_6
 clear hr0_6 hc0_6
 have HB:=aM (Below.refl w.heap.size w)
 have H:=h
 unfold XL.f at H
 clear h
 replace H:=bE H;obtain⟨s,E1,H⟩:=H
 go_enter Try.func12,Try.ntmps12
 by_cases c3:s<0
 ·rw[if_pos c3] at H
  have c3b0:=decide_eq_true c3
  go_wp2_with (first | ((with_reducible refine gate_dst (N:=1) rfl ?_);refine boxE 1 #[.slice A0_0 l0_0.length c0_0,.slice A0_1 l0_1.length c0_1,.slice A0_2 l0_2.length c0_2,.int .i64 a0_3,.slice A0_4 l0_4.length c0_4,.slice A0_5 l0_5.length c0_5,.slice A0_6 l0_6.length c0_6,.int .i64 a0_7] 78 ?_;intro gb1 hg w1 hbox hb;have BK1:=aM (hbox);have GE1:=aG hg HB;replace HB:=aS HB hb;clear hb hbox hg;have hcz1:=cZ8 BK1.out) | ((with_reducible refine gate_callee (f:=66) rfl ?_);refine gB 66 13 Try.func66 (XO.calls k _ _ l0_0 _ _ l0_1 _ _ l0_2 a0_3 _ _ l0_4 _ _ l0_5 _ _ l0_6 a0_7 1048576 s _ (cC HR0_0.out HB.out) HC0_0.out (cC HR0_1.out HB.out) HC0_1.out (cC HR0_2.out HB.out) HC0_2.out (cC HR0_4.out HB.out) HC0_4.out (cC HR0_5.out HB.out) HC0_5.out (cC HR0_6.out HB.out) HC0_6.out E1.out) ?_;intro w2 hb;replace BK1:=aB BK1 hb;replace HB:=aS HB hb;clear hb;have hcz2:=cZ8 BK1.out))
  go_ret
  exact⟨rE,(hX HB.out)⟩
 rw[if_neg c3] at H
 have c3b0:=decide_eq_false c3
 replace H:=bE H;obtain⟨⟨p0,p1,p2,p3,p4,p5,p6,p7⟩,E2,H⟩:=H
 try dsimp only at H
 replace H:=bE H;obtain⟨v,E3,H⟩:=H
 replace H:=bE H;obtain⟨⟨x0,x1,x2,x3,x4,x5,x6,x7⟩,E4,H⟩:=H
 try dsimp only at H
 replace H:=bE H;obtain⟨g,E5,H⟩:=H
 replace H:=bE H;obtain⟨e1,E6,H⟩:=H
 replace H:=ifT H;obtain⟨rfl,H⟩:=H
 replace H:=bE H;obtain⟨⟨y0,y1,y2,y3,y4,y5,y6,y7⟩,E7,H⟩:=H
 try dsimp only at H
 replace H:=bE H;obtain⟨e2,E8,H⟩:=H
 replace H:=ifT H;obtain⟨rfl,H⟩:=H
 replace H:=bE H;obtain⟨m,E9,H⟩:=H
 replace H:=ifF H;obtain⟨c9,H⟩:=H
 have c9b:=decide_eq_false c9
 clear c9
 replace H:=bE H;obtain⟨e3,E10,H⟩:=H
 replace H:=ifT H;obtain⟨rfl,H⟩:=H
 replace H:=bE H;obtain⟨⟨z1,z2⟩,E11,H⟩:=H
 unfold XL.g at H
 replace H:=bE H;obtain⟨u1,E12,H⟩:=H
 replace H:=ifF H;obtain⟨c12,H⟩:=H
 have c12b:=decide_eq_false c12
 clear c12
 replace H:=ifT H;obtain⟨c13,H⟩:=H
 try dsimp only at c13 E12 H
 obtain⟨c13b0,c13b1⟩:=eqT c13
 replace H:=bE H;obtain⟨⟨h0,h1,h2,h3,h4,h5,h6,h7⟩,E14,H⟩:=H
 try dsimp only at H
 replace H:=bE H;obtain⟨g2,E15,H⟩:=H
 replace H:=bE H;obtain⟨e4,E16,H⟩:=H
 replace H:=ifT H;obtain⟨rfl,H⟩:=H
 replace H:=bE H;obtain⟨u2,E17,H⟩:=H
 replace H:=ifF H;obtain⟨c17,H⟩:=H
 have c17b:=decide_eq_false c17
 clear c17
 replace H:=ifT H;obtain⟨c18,H⟩:=H
 try dsimp only at c18
 obtain⟨c18b0,c18b1⟩:=eqT c18
 clear H c13 c18
 go_wp2_with (first | ((with_reducible refine gate_dst (N:=1) rfl ?_);refine boxE 1 #[.slice A0_0 l0_0.length c0_0,.slice A0_1 l0_1.length c0_1,.slice A0_2 l0_2.length c0_2,.int .i64 a0_3,.slice A0_4 l0_4.length c0_4,.slice A0_5 l0_5.length c0_5,.slice A0_6 l0_6.length c0_6,.int .i64 a0_7] 78 ?_;intro gb1 hg w1 hbox hb;have BK1:=aM (hbox);have GE1:=aG hg HB;replace HB:=aS HB hb;clear hb hbox hg;have hcz1:=cZ8 BK1.out) | ((with_reducible refine gate_callee (f:=66) rfl ?_);refine gB 66 13 Try.func66 (XO.calls k _ _ l0_0 _ _ l0_1 _ _ l0_2 a0_3 _ _ l0_4 _ _ l0_5 _ _ l0_6 a0_7 1048576 s _ (cC HR0_0.out HB.out) HC0_0.out (cC HR0_1.out HB.out) HC0_1.out (cC HR0_2.out HB.out) HC0_2.out (cC HR0_4.out HB.out) HC0_4.out (cC HR0_5.out HB.out) HC0_5.out (cC HR0_6.out HB.out) HC0_6.out E1.out) ?_;intro w2 hb;replace BK1:=aB BK1 hb;replace HB:=aS HB hb;clear hb;have hcz2:=cZ8 BK1.out) | ((with_reducible refine gate_callee (f:=68) rfl ?_);refine goesM 68 17 Try.func68 #[.agg #[.slice A0_0 l0_0.length c0_0,.slice A0_1 l0_1.length c0_1,.slice A0_2 l0_2.length c0_2,.int .i64 a0_3,.slice A0_4 l0_4.length c0_4,.slice A0_5 l0_5.length c0_5,.slice A0_6 l0_6.length c0_6,.int .i64 a0_7]] ?_;refine(Xy.calls k _ _ l0_0 _ _ l0_1 _ _ l0_2 a0_3 _ _ l0_4 _ _ l0_5 _ _ l0_6 a0_7 p0 p1 p2 p3 p4 p5 p6 p7 _ (cC HR0_0.out HB.out) HC0_0.out (cC HR0_1.out HB.out) HC0_1.out (cC HR0_2.out HB.out) HC0_2.out (cC HR0_4.out HB.out) HC0_4.out (cC HR0_5.out HB.out) HC0_5.out (cC HR0_6.out HB.out) HC0_6.out E2.out).mono ?_;rintro e w3 ⟨va0,va1,va2,va4,va5,va6,rfl,hp0,hp1,hp2,hp4,hp5,hp6,hb⟩;refine⟨_,rfl,?_⟩;have HP0:=aM hp0;have HP1:=aM hp1;have HP2:=aM hp2;have HP4:=aM hp4;have HP5:=aM hp5;have HP6:=aM hp6;replace BK1:=aB BK1 hb;replace HB:=aS HB hb;clear hb hp0 hp1 hp2 hp4 hp5 hp6;obtain⟨Aa0,ca0,es_⟩:=Kd.R_slice HP0.out;subst es_;obtain⟨Aa1,ca1,es_⟩:=Kd.S_slice HP1.out;subst es_;obtain⟨Aa2,ca2,es_⟩:=Kd.S_slice HP2.out;subst es_;obtain⟨Aa4,ca4,es_⟩:=Kd.S_slice HP4.out;subst es_;obtain⟨Aa5,ca5,es_⟩:=Kd.R_slice HP5.out;subst es_;obtain⟨Aa6,ca6,es_⟩:=Kd.R_slice HP6.out;subst es_) | ((with_reducible refine gate_callee (f:=67) rfl ?_);refine goesM 67 18 Try.func67 #[.agg #[.slice Aa0 p0.length ca0,.slice Aa1 p1.length ca1,.slice Aa2 p2.length ca2,.int .i64 p3,.slice Aa4 p4.length ca4,.slice Aa5 p5.length ca5,.slice Aa6 p6.length ca6,.int .i64 p7]] ?_;refine(Xaq.calls k _ _ p0 _ _ p1 _ _ p2 p3 _ _ p4 _ _ p5 _ _ p6 p7 v _ (rD HP0.out) (rL HP0.out) (sD HP1.out) (sL HP1.out) (sD HP2.out) (sL HP2.out) (sD HP4.out) (sL HP4.out) (rD HP5.out) (rL HP5.out) (rD HP6.out) (rL HP6.out) E3.out).mono ?_;rintro e w4 ⟨vv,rfl,hv,hb⟩;refine⟨_,rfl,?_⟩;have HV:=aM (Kd.S_lower hv (below_size (hX HB.out)));replace BK1:=aB BK1 hb;replace HB:=aS HB hb;clear hb hv HP0 HP1 HP2 HP4 HP5 HP6;have hcz3:=cZ8 BK1.out) | ((with_reducible refine gate_callee (f:=68) rfl ?_);refine goesM 68 20 Try.func68 #[.agg #[.slice A0_0 l0_0.length c0_0,.slice A0_1 l0_1.length c0_1,.slice A0_2 l0_2.length c0_2,.int .i64 a0_3,.slice A0_4 l0_4.length c0_4,.slice A0_5 l0_5.length c0_5,.slice A0_6 l0_6.length c0_6,.int .i64 a0_7]] ?_;refine(Xy.sep k _ _ l0_0 _ _ l0_1 _ _ l0_2 a0_3 _ _ l0_4 _ _ l0_5 _ _ l0_6 a0_7 x0 x1 x2 x3 x4 x5 x6 x7 _ (cC HR0_0.out HB.out) HC0_0.out (cC HR0_1.out HB.out) HC0_1.out (cC HR0_2.out HB.out) HC0_2.out (cC HR0_4.out HB.out) HC0_4.out (cC HR0_5.out HB.out) HC0_5.out (cC HR0_6.out HB.out) HC0_6.out E4.out).mono ?_;rintro e w5 ⟨vx0,vx1,vx2,vx4,vx5,vx6,rfl,hx0,hx1,hx2,hx4,hx5,hx6,hb,htw⟩;refine⟨_,rfl,?_⟩;have hl_:=below_size (hX HB.out);obtain⟨n,hn5,hv,q0,q1,q2,q4,q5,q6,qt⟩:∃ n:Nat,n≤w5.heap.size∧Kd.S k59 59 w5 w.heap.size (fun k=>True∧k<n) vv v∧Kd.R k170 170 w5 w.heap.size (fun k=>True) vx0 x0∧Kd.S k175 175 w5 w.heap.size (fun k=>True) vx1 x1∧Kd.S k146 146 w5 w.heap.size (fun k=>True) vx2 x2∧Kd.S k59 59 w5 w.heap.size (fun k=>True) vx4 x4∧Kd.R (Kd.int .i64) 3 w5 w.heap.size (fun k=>(some k ≠ (vx6:Value).ownBlock∧n≤k)) vx5 x5∧Kd.R (Kd.int .i64) 3 w5 w.heap.size (fun k=>(some k ≠ (vx5:Value).ownBlock∧n≤k)) vx6 x6∧Two k175 k59 175 59 w5 w.heap.size (fun k=>((some k ≠ (vx5:Value).ownBlock∧some k ≠ (vx6:Value).ownBlock)∧n≤k)) vx1 x1 vx4 x4:=⟨_,hb.size,Kd.S_old (sX HV.out) hb,Kd.R_mono (R_from hx0 hl_) (fun _ _=>trivial),Kd.S_mono (S_from hx1 hl_) (fun _ _=>trivial),Kd.S_mono (S_from hx2 hl_) (fun _ _=>trivial),Kd.S_mono (S_from hx4 hl_) (fun _ _=>trivial),R_from hx5 hl_,R_from hx6 hl_,two_from htw hl_⟩;replace HV:=aM hv;have HX0:=aM q0;have HX1:=aM q1;have HX2:=aM q2;have HX4:=aM q4;have HX5:=aM q5;have HX6:=aM q6;have HTW:=aM qt;have hN5:=aM hn5;replace BK1:=aB BK1 hb;replace HB:=aS HB hb;clear hl_ hb htw hn5 hv qt hx0 hx1 hx2 hx4 hx5 hx6 q0 q1 q2 q4 q5 q6) | ((with_reducible refine gate_dst (N:=5) rfl ?_);refine boxE 5 #[.slice none 0 0,.slice none 0 0,.slice none 0 0,.int .i64 0,.slice none 0 0,.slice none 0 0,.slice none 0 0,.int .i64 0] 87 ?_;intro gb2 hg w6 hbox hb;have BK2:=aM (hbox);have GE2:=aG hg HB;have hNG:=aM (show n≤gb2 from hg ▸ hN5.out);have NB1:=aL hg BK1;have NB2:=aR hg BK1;replace HV:=aT HV hb;replace HX0:=aQ HX0 hb;replace HX1:=aT HX1 hb;replace HX2:=aT HX2 hb;replace HX4:=aT HX4 hb;replace HX5:=aQ HX5 hb;replace HX6:=aQ HX6 hb;replace HTW:=twT HTW hb;replace BK1:=aB BK1 hb;replace HB:=aS HB hb;clear hb hbox hg;have hnb1:=NB1.out;have hnb2:=NB2.out;have hcz4:=cZ8 BK2.out;obtain⟨Ax0,cx0,es_⟩:=Kd.R_slice HX0.out;subst es_;obtain⟨Ax1,cx1,es_⟩:=Kd.S_slice HX1.out;subst es_;obtain⟨Ax2,cx2,es_⟩:=Kd.S_slice HX2.out;subst es_;obtain⟨Ax4,cx4,es_⟩:=Kd.S_slice HX4.out;subst es_;obtain⟨Ax5,cx5,es_⟩:=Kd.R_slice HX5.out;subst es_;obtain⟨Ax6,cx6,es_⟩:=Kd.R_slice HX6.out;subst es_) | ((with_reducible refine gate_callee (f:=69) rfl ?_);refine goesM 69 22 Try.func69 #[.agg #[.slice Ax0 x0.length cx0,.slice Ax1 x1.length cx1,.slice Ax2 x2.length cx2,.int .i64 x3,.slice Ax4 x4.length cx4,.slice Ax5 x5.length cx5,.slice Ax6 x6.length cx6,.int .i64 x7]] ?_;refine Stop.out ?_))
 refine⟨?_⟩
 refine(XG.calls k _ _ x0 _ _ x1 _ _ x2 x3 _ _ x4 _ _ x5 _ _ x6 x7 g _ (rR HX0.out BK2.out) (rL HX0.out) (sR HX1.out BK2.out) (sL HX1.out) (sR HX2.out BK2.out) (sL HX2.out) (sR HX4.out BK2.out) (sL HX4.out) (rR HX5.out BK2.out) (rL HX5.out) (rR HX6.out BK2.out) (rL HX6.out) E5.out).mono ?_
 rintro e w7 ⟨vg,rfl,hg1,hb⟩
 refine⟨_,rfl,?_⟩
 have hb1:=lt_of_blk hb (bF BK1.out)
 have hb2:=lt_of_blk (cs:=#[.slice Ax0 x0.length cx0,.slice Ax1 x1.length cx1,.slice Ax2 x2.length cx2,.int .i64 x3,.slice Ax4 x4.length cx4,.slice Ax5 x5.length cx5,.slice Ax6 x6.length cx6,.int .i64 x7]) hb (bP BK2.out)
 have hv:=Kd.S_below (sF HV.out BK2.out) hb
 have hg_:=S_from hg1 (below_size (hX HB.out))
 have q0:=Kd.R_below (rF HX0.out BK2.out) hb
 have q1:=Kd.S_below (sF HX1.out BK2.out) hb
 have q2:=Kd.S_below (sF HX2.out BK2.out) hb
 have q4:=Kd.S_below (sF HX4.out BK2.out) hb
 have q5:=Kd.R_old (rF HX5.out BK2.out) hb
 have q6:=Kd.R_old (rF HX6.out BK2.out) hb
 have qt:=two_old (twF HTW.out BK2.out) hb
 obtain⟨M,hb1,hb2,hv,hg_,q0,q1,q2,q4,q5,q6,qt⟩:∃ M:Nat,gb1<M∧gb2<M∧Kd.S k59 59 w7 w.heap.size (fun k=>True∧k<n) vv v∧Kd.S k59 59 w7 w.heap.size (fun k=>True∧M≤k) vg g∧Kd.R k170 170 w7 w.heap.size (fun k=>True) (.slice Ax0 x0.length cx0) x0∧Kd.S k175 175 w7 w.heap.size (fun k=>True) (.slice Ax1 x1.length cx1) x1∧Kd.S k146 146 w7 w.heap.size (fun k=>True) (.slice Ax2 x2.length cx2) x2∧Kd.S k59 59 w7 w.heap.size (fun k=>True) (.slice Ax4 x4.length cx4) x4∧Kd.R (Kd.int .i64) 3 w7 w.heap.size (fun k=>(some k ≠ ((.slice Ax6 x6.length cx6):Value).ownBlock∧n≤k)∧k<M) (.slice Ax5 x5.length cx5) x5∧Kd.R (Kd.int .i64) 3 w7 w.heap.size (fun k=>(some k ≠ ((.slice Ax5 x5.length cx5):Value).ownBlock∧n≤k)∧k<M) (.slice Ax6 x6.length cx6) x6∧Two k175 k59 175 59 w7 w.heap.size (fun k=>((some k ≠ ((.slice Ax5 x5.length cx5):Value).ownBlock∧some k ≠ ((.slice Ax6 x6.length cx6):Value).ownBlock)∧n≤k)∧k<M) (.slice Ax1 x1.length cx1) x1 (.slice Ax4 x4.length cx4) x4:=⟨_,hb1,hb2,hv,hg_,q0,q1,q2,q4,q5,q6,qt⟩
 replace HV:=aM hv
 have HG:=aM hg_
 replace HX0:=aM q0
 replace HX1:=aM q1
 replace HX2:=aM q2
 replace HX4:=aM q4
 replace HX5:=aM q5
 replace HX6:=aM q6
 replace HTW:=aM qt
 have HM1:=aM hb1
 have HM2:=aM hb2
 have HNM:=aM (show n≤M from Nat.le_trans hNG.out (Nat.le_of_lt hb2))
 replace BK1:=aF BK1 hb
 replace BK2:=aM (blk_below (g:=gb2) (o:=.cells #[.slice Ax0 x0.length cx0,.slice Ax1 x1.length cx1,.slice Ax2 x2.length cx2,.int .i64 x3,.slice Ax4 x4.length cx4,.slice Ax5 x5.length cx5,.slice Ax6 x6.length cx6,.int .i64 x7] 87 (0,0)) (bP BK2.out) hb)
 replace HB:=aS HB hb
 clear hb hg1 hb1 hb2 hv hg_ q0 q1 q2 q4 q5 q6 qt
 obtain⟨Ag,cg,es_⟩:=Kd.S_slice HG.out
 subst es_
 obtain⟨Av,cv,es_⟩:=Kd.S_slice HV.out
 subst es_
 go_wp2_with ((with_reducible refine gate_callee (f:=65) rfl ?_);refine gB 65 25 Try.func65 (Xa.calls k _ _ g _ _ v true _ (sD HG.out) (sL HG.out) (sD HV.out) (sL HV.out) E6.out) ?_;intro w8 hb;replace HV:=aT HV hb;replace HG:=aT HG hb;replace HX0:=aQ HX0 hb;replace HX1:=aT HX1 hb;replace HX2:=aT HX2 hb;replace HX4:=aT HX4 hb;replace HX5:=aQ HX5 hb;replace HX6:=aQ HX6 hb;replace HTW:=twT HTW hb;replace BK1:=aB BK1 hb;replace BK2:=aB BK2 hb;replace HB:=aS HB hb;clear hb)
 replace HV:=aM (Kd.S_drew HV.out)
 replace HG:=aM (Kd.S_drew HG.out)
 replace HX0:=aM (Kd.R_drew HX0.out)
 replace HX1:=aM (Kd.S_drew HX1.out)
 replace HX2:=aM (Kd.S_drew HX2.out)
 replace HX4:=aM (Kd.S_drew HX4.out)
 replace HX5:=aM (Kd.R_drew HX5.out)
 replace HX6:=aM (Kd.R_drew HX6.out)
 replace HTW:=aM (two_drew HTW.out)
 replace BK1:=aM (blk_drew BK1.out)
 replace BK2:=aM (blk_drew BK2.out)
 replace HB:=aM (below_drew1 HB.out)
 refine start_ (n:=5) (S:=fun w'=>w'.cell? ⟨gb2,0,none⟩=some (.slice Ax0 x0.length cx0)∧w'.cell? ⟨gb2,1,none⟩=some (.slice Ax1 x1.length cx1)∧w'.cell? ⟨gb2,2,none⟩=some (.slice Ax2 x2.length cx2)∧w'.cell? ⟨gb2,3,none⟩=some (.int .i64 x3)∧w'.cell? ⟨gb2,4,none⟩=some (.slice Ax4 x4.length cx4)∧w'.cell? ⟨gb2,5,none⟩=some (.slice Ax5 x5.length cx5)∧w'.cell? ⟨gb2,6,none⟩=some (.slice Ax6 x6.length cx6)∧w'.cell? ⟨gb2,7,none⟩=some (.int .i64 x7)∧w'.cell? ⟨gb1,0,none⟩=some (.slice A0_0 l0_0.length c0_0)∧w'.cell? ⟨gb1,1,none⟩=some (.slice A0_1 l0_1.length c0_1)∧w'.cell? ⟨gb1,2,none⟩=some (.slice A0_2 l0_2.length c0_2)∧w'.cell? ⟨gb1,3,none⟩=some (.int .i64 a0_3)∧w'.cell? ⟨gb1,4,none⟩=some (.slice A0_4 l0_4.length c0_4)∧w'.cell? ⟨gb1,5,none⟩=some (.slice A0_5 l0_5.length c0_5)∧w'.cell? ⟨gb1,6,none⟩=some (.slice A0_6 l0_6.length c0_6)∧w'.cell? ⟨gb1,7,none⟩=some (.int .i64 a0_7)) (ds:=[]) (bm 5 0) (by kernel_rfl) rfl (by kernel_rfl) ⟨cK BK2.out 0,cK BK2.out 1,cK BK2.out 2,cK BK2.out 3,cK BK2.out 4,cK BK2.out 5,cK BK2.out 6,cK BK2.out 7,cK BK1.out 0,cK BK1.out 1,cK BK1.out 2,cK BK1.out 3,cK BK1.out 4,cK BK1.out 5,cK BK1.out 6,cK BK1.out 7⟩ (fun hHeld => ?_)
 generalize w8.drew=w9 at HV HG HX0 HX1 HX2 HX4 HX5 HX6 HTW BK1 BK2 HB hHeld ⊢
 refine tK 0 27 (bm 5 1) hHeld ?_
 refine tK 1 28 (bm 5 3) hHeld ?_
 refine oK 2 (some 29) (bm 5 7) (fun K hK => ?_)
 refine goesN Try.func68 #[.agg #[.slice A0_0 l0_0.length c0_0,.slice A0_1 l0_1.length c0_1,.slice A0_2 l0_2.length c0_2,.int .i64 a0_3,.slice A0_4 l0_4.length c0_4,.slice A0_5 l0_5.length c0_5,.slice A0_6 l0_6.length c0_6,.int .i64 a0_7]] ?_
 refine(Xy.calls k _ _ l0_0 _ _ l0_1 _ _ l0_2 a0_3 _ _ l0_4 _ _ l0_5 _ _ l0_6 a0_7 y0 y1 y2 y3 y4 y5 y6 y7 _ (cC HR0_0.out HB.out) HC0_0.out (cC HR0_1.out HB.out) HC0_1.out (cC HR0_2.out HB.out) HC0_2.out (cC HR0_4.out HB.out) HC0_4.out (cC HR0_5.out HB.out) HC0_5.out (cC HR0_6.out HB.out) HC0_6.out E7.out).mono ?_
 rintro e w10 ⟨vy0,vy1,vy2,vy4,vy5,vy6,rfl,hy0,hy1,hy2,hy4,hy5,hy6,hb⟩
 refine⟨_,rfl,?_⟩
 have HY0:=aM hy0
 have HY1:=aM hy1
 have HY2:=aM hy2
 have HY4:=aM hy4
 have HY5:=aM hy5
 have HY6:=aM hy6
 replace HV:=aT HV hb;replace HG:=aT HG hb;replace HX0:=aQ HX0 hb;replace HX1:=aT HX1 hb;replace HX2:=aT HX2 hb;replace HX4:=aT HX4 hb;replace HX5:=aQ HX5 hb;replace HX6:=aQ HX6 hb;replace HTW:=twT HTW hb;replace BK1:=aB BK1 hb;replace BK2:=aB BK2 hb;replace HB:=aS HB hb;clear hb
 clear hy0
 obtain⟨Ay0,cy0,es_⟩:=Kd.R_slice HY0.out
 subst es_
 clear hy1
 obtain⟨Ay1,cy1,es_⟩:=Kd.S_slice HY1.out
 subst es_
 clear hy2
 obtain⟨Ay2,cy2,es_⟩:=Kd.S_slice HY2.out
 subst es_
 clear hy4
 obtain⟨Ay4,cy4,es_⟩:=Kd.S_slice HY4.out
 subst es_
 clear hy5
 obtain⟨Ay5,cy5,es_⟩:=Kd.R_slice HY5.out
 subst es_
 clear hy6
 obtain⟨Ay6,cy6,es_⟩:=Kd.R_slice HY6.out
 subst es_
 refine hK.out _ _ ⟨cK BK2.out 0,cK BK2.out 1,cK BK2.out 2,cK BK2.out 3,cK BK2.out 4,cK BK2.out 5,cK BK2.out 6,cK BK2.out 7,cK BK1.out 0,cK BK1.out 1,cK BK1.out 2,cK BK1.out 3,cK BK1.out 4,cK BK1.out 5,cK BK1.out 6,cK BK1.out 7⟩ (fun hHeld => ?_)
 clear hK K
 refine nZ 29 ?_
 refine oK 3 (some 30) (bm 5 15) (fun K hK => ?_)
 refine goesN Try.func70 #[.agg #[.slice Ax0 x0.length cx0,.slice Ax1 x1.length cx1,.slice Ax2 x2.length cx2,.int .i64 x3,.slice Ax4 x4.length cx4,.slice Ax5 x5.length cx5,.slice Ax6 x6.length cx6,.int .i64 x7],.agg #[.slice Ay0 y0.length cy0,.slice Ay1 y1.length cy1,.slice Ay2 y2.length cy2,.int .i64 y3,.slice Ay4 y4.length cy4,.slice Ay5 y5.length cy5,.slice Ay6 y6.length cy6,.int .i64 y7]] ?_
 refine(XU.calls k _ _ x0 _ _ x1 _ _ x2 x3 _ _ x4 _ _ x5 _ _ x6 x7 _ _ y0 _ _ y1 _ _ y2 y3 _ _ y4 _ _ y5 _ _ y6 y7 true _ (rD HX0.out) (rL HX0.out) (sD HX1.out) (sL HX1.out) (sD HX2.out) (sL HX2.out) (sD HX4.out) (sL HX4.out) (rD HX5.out) (rL HX5.out) (rD HX6.out) (rL HX6.out) (rD HY0.out) (rL HY0.out) (sD HY1.out) (sL HY1.out) (sD HY2.out) (sL HY2.out) (sD HY4.out) (sL HY4.out) (rD HY5.out) (rL HY5.out) (rD HY6.out) (rL HY6.out) E8.out).mono ?_
 rintro e w11 ⟨rfl,hb⟩
 refine⟨_,rfl,?_⟩
 replace HV:=aT HV hb;replace HG:=aT HG hb;replace HX0:=aQ HX0 hb;replace HX1:=aT HX1 hb;replace HX2:=aT HX2 hb;replace HX4:=aT HX4 hb;replace HX5:=aQ HX5 hb;replace HX6:=aQ HX6 hb;replace HTW:=twT HTW hb;replace BK1:=aB BK1 hb;replace BK2:=aB BK2 hb;replace HB:=aS HB hb;clear hb
 clear HY0 HY1 HY2 HY4 HY5 HY6
 refine hK.out _ _ ⟨cK BK2.out 0,cK BK2.out 1,cK BK2.out 2,cK BK2.out 3,cK BK2.out 4,cK BK2.out 5,cK BK2.out 6,cK BK2.out 7,cK BK1.out 0,cK BK1.out 1,cK BK1.out 2,cK BK1.out 3,cK BK1.out 4,cK BK1.out 5,cK BK1.out 6,cK BK1.out 7⟩ (fun hHeld => ?_)
 clear hK K hHeld
 refine nZ 30 ?_
 refine pK 4 31 (bm 5 31) ?_
 refine done_ (by kernel_rfl) ?_
 have hcz5:=cZ8 BK2.out
 have HX5':=HX5.out.1
 have HX6':=HX6.out.1
 have HVt:=aM (Deep.S_ty (l:=[59,3]) HV.out)
 have HGt:=aM (Deep.S_ty (l:=[59,3]) HG.out)
 clear HV HG
 have hcall:=XI.two k _ _ _ _ _ _ _ _ _ _ _ x0 x1 x2 x3 x4 x5 x6 x7 1 m w _ (hX HB.out) HX0.out HTW.out HX2.out HX5.out HX6.out (fun _ h_=>h_.1.1.1) (fun _ h_=>h_.1.1.2) (fun _ h_=>h_.1.1) E9.out
 go_upto_region 14 with((with_reducible refine gate_callee (f:=71) rfl ?_);refine goesM 71 34 Try.func71 #[.agg #[.slice Ax0 x0.length cx0,.slice Ax1 x1.length cx1,.slice Ax2 x2.length cx2,.int .i64 x3,.slice Ax4 x4.length cx4,.slice Ax5 x5.length cx5,.slice Ax6 x6.length cx6,.int .i64 x7],.int .i64 1] ?_;refine hcall.mono ?_;rintro e w12 ⟨q0,q1,q2,q4,q5,q6,rfl,hm0,hm1,hm2,hm4,hm5,hm6,hb,hkp⟩;refine⟨_,rfl,?_⟩;have HV:=aM (Kd.S_kept HVt.out hkp (fun k_ h_ e_=>e_.elim (fun e_=>Deep.Ty_no (l:=[59,3]) h_.2 e_ (by decide)) (fun e_=>e_.1.elim (fun e_=>Nat.lt_irrefl _ (Nat.lt_of_lt_of_le h_.1.2 e_.1.2)) (fun e_=>e_.elim (fun e_=>Nat.lt_irrefl _ (Nat.lt_of_lt_of_le h_.1.2 (HX5' k_ e_.symm).1.2)) (fun e_=>Nat.lt_irrefl _ (Nat.lt_of_lt_of_le h_.1.2 (HX6' k_ e_.symm).1.2))))));have HG:=aM (Kd.S_kept HGt.out hkp (fun k_ h_ e_=>e_.elim (fun e_=>Deep.Ty_no (l:=[59,3]) h_.2 e_ (by decide)) (fun e_=>e_.1.elim (fun e_=>Nat.lt_irrefl _ (Nat.lt_of_lt_of_le e_.2 h_.1.2)) (fun e_=>e_.elim (fun e_=>Nat.lt_irrefl _ (Nat.lt_of_lt_of_le (HX5' k_ e_.symm).2 h_.1.2)) (fun e_=>Nat.lt_irrefl _ (Nat.lt_of_lt_of_le (HX6' k_ e_.symm).2 h_.1.2))))));replace BK1:=aM (blk_kept (bX BK1.out) hkp (fun e_=>e_.elim (fun e_=>Deep.Ty_blk (bX BK1.out) e_ (by decide)) (fun e_=>Deep.Ty_blk (bX BK1.out) e_.2 (by decide))));replace BK2:=aM (blk_kept (bX BK2.out) hkp (fun e_=>e_.elim (fun e_=>Deep.Ty_blk (bX BK2.out) e_ (by decide)) (fun e_=>Deep.Ty_blk (bX BK2.out) e_.2 (by decide))));replace HB:=aM hb;clear hb hkp hcall hm0 hm1 hm2 hm4 hm5 hm6 HVt HGt HX5' HX6' HTW HX0 HX1 HX2 HX4 HX5 HX6)
 (try simp only[Act.put,List.setIfInBounds_toArray,List.set_cons_zero,List.set_cons_succ])
 (first | rw[c9b] | (simp only[i64_w,i32_w];rw[c9b]) | skip)
 go_wp2_with (first | (go_at_call 65;(with_reducible refine(Xa.calls k _ _ g _ _ v true _ ?side1 ?side2 ?side3 ?side4 E10.out).mono ?_);(case side1=>exact sD HG.out);(case side2=>exact sL HG.out);(case side3=>exact sD HV.out);(case side4=>exact sL HV.out);rintro e w13 ⟨rfl,hb⟩;replace HV:=aT HV hb;replace HG:=aT HG hb;replace BK1:=aB BK1 hb;replace BK2:=aB BK2 hb;replace HB:=aS HB hb;clear hb) | ((with_reducible refine gate_callee (f:=72) rfl ?_);refine goesM 72 45 Try.func72 #[.slice Ag g.length cg,.int .i64 1] ?_;refine(Xo.calls k _ _ g 1 z1 z2 w _ (hX HB.out) HG.out E11.out).mono ?_;rintro e w14 ⟨rfl,hm,hb,hkp⟩;refine⟨_,rfl,?_⟩;replace HV:=aM (Kd.S_kept HV.out hkp (fun k_ h_ e_=>Nat.lt_irrefl _ (Nat.lt_of_lt_of_le (Nat.lt_of_lt_of_le h_.1.2 HNM.out) e_.1.2)));replace BK1:=aM (blk_kept (bX BK1.out) hkp (fun e_=>Nat.lt_irrefl _ (Nat.lt_of_lt_of_le HM1.out e_.1.2)));replace BK2:=aM (blk_kept (bX BK2.out) hkp (fun e_=>Nat.lt_irrefl _ (Nat.lt_of_lt_of_le HM2.out e_.1.2)));replace HG:=aM hm;have HZ:=aM ((Kd.S_reads' hm).1);replace HB:=aM hb;clear hb hkp hm) | ((with_reducible refine gate_callee (f:=73) rfl ?_);have hh:=Xn.calls k Ag cg z2 1 u1 _ (Kd.S_reads' HG.out).2.2 (HZ.out ▸ (Kd.S_reads' HG.out).2.1) E12.out;rw[← HZ.out] at hh;refine gD 73 48 Try.func73 hh ?_;clear hh;intro n1_;have hcz6:=cZ8 BK1.out) | ((with_reducible refine gate_callee (f:=68) rfl ?_);refine goesM 68 55 Try.func68 #[.agg #[.slice A0_0 l0_0.length c0_0,.slice A0_1 l0_1.length c0_1,.slice A0_2 l0_2.length c0_2,.int .i64 a0_3,.slice A0_4 l0_4.length c0_4,.slice A0_5 l0_5.length c0_5,.slice A0_6 l0_6.length c0_6,.int .i64 a0_7]] ?_;refine(Xy.calls k _ _ l0_0 _ _ l0_1 _ _ l0_2 a0_3 _ _ l0_4 _ _ l0_5 _ _ l0_6 a0_7 h0 h1 h2 h3 h4 h5 h6 h7 _ (cC HR0_0.out HB.out) HC0_0.out (cC HR0_1.out HB.out) HC0_1.out (cC HR0_2.out HB.out) HC0_2.out (cC HR0_4.out HB.out) HC0_4.out (cC HR0_5.out HB.out) HC0_5.out (cC HR0_6.out HB.out) HC0_6.out E14.out).mono ?_;rintro e w15 ⟨vh0,vh1,vh2,vh4,vh5,vh6,rfl,hh0,hh1,hh2,hh4,hh5,hh6,hb⟩;refine⟨_,rfl,?_⟩;have HH0:=aM hh0;have HH1:=aM hh1;have HH2:=aM hh2;have HH4:=aM hh4;have HH5:=aM hh5;have HH6:=aM hh6;replace HV:=aT HV hb;replace HG:=aT HG hb;replace BK1:=aB BK1 hb;replace BK2:=aB BK2 hb;replace HB:=aS HB hb;clear hb hh0 hh1 hh2 hh4 hh5 hh6;obtain⟨Ah0,ch0,es_⟩:=Kd.R_slice HH0.out;subst es_;obtain⟨Ah1,ch1,es_⟩:=Kd.S_slice HH1.out;subst es_;obtain⟨Ah2,ch2,es_⟩:=Kd.S_slice HH2.out;subst es_;obtain⟨Ah4,ch4,es_⟩:=Kd.S_slice HH4.out;subst es_;obtain⟨Ah5,ch5,es_⟩:=Kd.R_slice HH5.out;subst es_;obtain⟨Ah6,ch6,es_⟩:=Kd.R_slice HH6.out;subst es_) | ((with_reducible refine gate_callee (f:=69) rfl ?_);refine goesM 69 56 Try.func69 #[.agg #[.slice Ah0 h0.length ch0,.slice Ah1 h1.length ch1,.slice Ah2 h2.length ch2,.int .i64 h3,.slice Ah4 h4.length ch4,.slice Ah5 h5.length ch5,.slice Ah6 h6.length ch6,.int .i64 h7]] ?_;refine(XG.calls k _ _ h0 _ _ h1 _ _ h2 h3 _ _ h4 _ _ h5 _ _ h6 h7 g2 _ (rD HH0.out) (rL HH0.out) (sD HH1.out) (sL HH1.out) (sD HH2.out) (sL HH2.out) (sD HH4.out) (sL HH4.out) (rD HH5.out) (rL HH5.out) (rD HH6.out) (rL HH6.out) E15.out).mono ?_;rintro e w16 ⟨vg2,rfl,hg2,hb⟩;refine⟨_,rfl,?_⟩;have HG2:=aM hg2;replace HV:=aT HV hb;replace HG:=aT HG hb;replace HB:=aS HB hb;clear hb hg2;obtain⟨Ag2,cg2,es_⟩:=Kd.S_slice HG2.out;subst es_) | ((with_reducible refine gate_callee (f:=65) rfl ?_);refine gB 65 59 Try.func65 (Xa.calls k _ _ g2 _ _ v true _ (sD HG2.out) (sL HG2.out) (sD HV.out) (sL HV.out) E16.out) ?_;intro w17 hb;replace HG:=aT HG hb;replace HB:=aS HB hb;clear hb) | ((with_reducible refine gate_callee (f:=73) rfl ?_);have hh:=Xn.calls k Ag cg z2 1 u2 _ (Kd.S_reads' HG.out).2.2 (HZ.out ▸ (Kd.S_reads' HG.out).2.1) E17.out;rw[← HZ.out] at hh;refine gD 73 63 Try.func73 hh ?_;intro n2_))
 go_ret
 exact⟨rE,(hX HB.out)⟩
end Go.Proofs.Yteamagejhbkhnaa.P
