/- A part of the proof of the law FnExactMachineNew: texts of this seat, merged (words, printed functions of the program, plain lemmas). Conditions: none of its own. -/
import Derived.Test.YtmljebgideecjaaGreatP2kFnExactMachineNew33
import Derived.Test.YtmljebgideecjaaGreatP2kFnExactMachineNew37
set_option linter.unusedSimpArgs false
set_option linter.unusedVariables false
set_option maxHeartbeats 8000000
set_option maxRecDepth 100000
namespace Go.Proofs.YtmljebgideecjaaGreat.P2
open Go.Proofs.YtmljebgideecjaaGreatZ Go.RowKit Go.Proofs.YtmljebgideecjaaGreatW.PrintWords Go.Proofs.YtmljebgideecjaaGreatW.PrintLast Go.Proofs.YtmljebgideecjaaGreatW.PrintMore
def XU.g (k:Nat) (l0_0:List Int) (a0_1:Int) (l1:List (List S116)) (v g:List S140 × List S162 × List S97 × Int × List S73 × List Int × List Int × Int × Bool):Option Bool:=(XaB.g k g.1 g.2.1 g.2.2.1 g.2.2.2.2.1 g.2.2.2.2.2.1 g.2.2.2.2.2.2.1 g.2.2.2.2.2.2.2.1 1).bind fun z=>(Xan.f k z.2.1 z.2.2.1 z.2.2.2.1 g.2.2.2.1 z.2.2.2.2.1 z.2.2.2.2.2.1 z.2.2.2.2.2.2 g.2.2.2.2.2.2.2.1 1).bind fun q=>if q<0 then some false else if q=z.1 then ((Xao.f k l0_0 a0_1).bind fun a=>(XJ.f k l1).bind fun b=>(Xl.f k a.1 a.2 b).bind fun h=>(Xal.f k h.1 h.2.1 h.2.2.1 h.2.2.2.1 h.2.2.2.2.1 h.2.2.2.2.2.1 h.2.2.2.2.2.2.1 h.2.2.2.2.2.2.2.1 v.1 v.2.1 v.2.2.1 v.2.2.2.1 v.2.2.2.2.1 v.2.2.2.2.2.1 v.2.2.2.2.2.2.1 v.2.2.2.2.2.2.2.1).bind fun e=>if e=true then (if h.2.2.2.2.2.2.2.2=v.2.2.2.2.2.2.2.2 then ((Xan.f k z.2.1 z.2.2.1 z.2.2.2.1 g.2.2.2.1 z.2.2.2.2.1 z.2.2.2.2.2.1 z.2.2.2.2.2.2 g.2.2.2.2.2.2.2.1 1).bind fun q2=>if q2<0 then some false else if q2=z.1 then some true else some false) else some false) else some false) else some false
def XU.f (k:Nat) (l0_0:List Int) (a0_1:Int) (l1:List (List S116)):Option Bool:=(XaQ.f l0_0 a0_1 1048576).bind fun s1=>if s1<0 then some true else (Xad.f k l1 s1).bind fun s2=>if s2<0 then some true else (Xao.f k l0_0 a0_1).bind fun a=>(XJ.f k l1).bind fun b=>(Xo.f k a.1 a.2 b).bind fun v=>(Xao.f k l0_0 a0_1).bind fun x=>(XJ.f k l1).bind fun y=>(Xl.f k x.1 x.2 y).bind fun g=>(Xal.f k g.1 g.2.1 g.2.2.1 g.2.2.2.1 g.2.2.2.2.1 g.2.2.2.2.2.1 g.2.2.2.2.2.2.1 g.2.2.2.2.2.2.2.1 v.1 v.2.1 v.2.2.1 v.2.2.2.1 v.2.2.2.2.1 v.2.2.2.2.2.1 v.2.2.2.2.2.2.1 v.2.2.2.2.2.2.2.1).bind fun e1=>if e1=true then (if g.2.2.2.2.2.2.2.2=v.2.2.2.2.2.2.2.2 then ((Xao.f k l0_0 a0_1).bind fun x2=>(Xar.f k x.1 x.2 x2.1 x2.2).bind fun e2=>if e2=true then ((XJ.f k l1).bind fun y2=>(XH.f k y y2).bind fun e3=>if e3=true then ((Xas.f k x.1 x.2 1).bind fun mx=>(X9.f k y mx.1).bind fun my=>if my.1<0 then some false else (Xal.f k g.1 g.2.1 g.2.2.1 g.2.2.2.1 g.2.2.2.2.1 g.2.2.2.2.2.1 g.2.2.2.2.2.2.1 g.2.2.2.2.2.2.2.1 v.1 v.2.1 v.2.2.1 v.2.2.2.1 v.2.2.2.2.1 v.2.2.2.2.2.1 v.2.2.2.2.2.2.1 v.2.2.2.2.2.2.2.1).bind fun e4=>if e4=true then (if g.2.2.2.2.1.length=0 then XU.g k l0_0 a0_1 l1 v g else some false) else some false) else some false) else some false) else some false) else some false
set_option maxHeartbeats 1800000 in
theorem XU.calls (k:Nat) (A0_0:Option Addr) (c0_0:Nat) (l0_0:List Int) (a0_1:Int) (A1:Option Addr) (c1:Nat) (l1:List (List (S116))) (r:Bool) (w:World) (hr0_0:Kd.C (Kd.int .i64) w A0_0 l0_0.length l0_0) (hc0_0:l0_0.length≤c0_0) (hr1:Kd.C (Kd.slice 116 k116) w A1 l1.length l1) (hc1:l1.length≤c1) (h:XU.f k l0_0 a0_1 l1=some r) (hrt:r=true:=by rfl) :
  Calls Tryz.prog 5 #[.agg #[.slice A0_0 l0_0.length c0_0,.int .i64 a0_1],.slice A1 l1.length c1] w fun e w'=>e = .returned (.bool r)∧Below w.heap.size w w':=by
 subst hrt
 have hu30:=Tryz.underlying30
 have hu41:=Tryz.underlying41
 have hu43:=Tryz.underlying43
 have HR0_0:=aM hr0_0
 have HC0_0:=aM hc0_0
 clear hr0_0 hc0_0
 have HR1:=aM hr1
 have HC1:=aM hc1
 clear hr1 hc1
 have HB:=aM (Below.refl w.heap.size w)
 have H:=h
 unfold XU.f at H
 clear h
 replace H:=bE H;obtain⟨s1,E1,H⟩:=H
 try dsimp only at H
 go_enter Tryz.func5,Tryz.ntmps5
 by_cases c1_:s1<0
 ·have c1b:=decide_eq_true c1_
  go_wp2_with (first | ((with_reducible refine gate_dst (N:=2) rfl ?_);refine boxE 2 #[.slice A0_0 l0_0.length c0_0,.int .i64 a0_1] 30 ?_;intro bb1 hg w1 hbox hb;have BK1:=aM (hbox);have GE1:=aG hg HB;replace HB:=aS HB hb;clear hb hbox hg;have hcz:=cZ2 BK1.out) | ((with_reducible refine gate_callee (f:=17) rfl ?_);refine gB 17 19 Tryz.func17 (XaQ.calls _ _ l0_0 a0_1 1048576 s1 _ (rW HR0_0 HB HC0_0) E1.out) ?_;intro w2 hb;replace BK1:=aB BK1 hb;replace HB:=aS HB hb;clear hb))
  go_ret
  exact⟨rE,(hX HB.out)⟩
 rw[if_neg c1_] at H
 have c1b:=decide_eq_false c1_
 clear c1_
 replace H:=bE H;obtain⟨s2,E2,H⟩:=H
 try dsimp only at H
 by_cases c2_:s2<0
 ·have c2b:=decide_eq_true c2_
  go_wp2_with (first | ((with_reducible refine gate_dst (N:=2) rfl ?_);refine boxE 2 #[.slice A0_0 l0_0.length c0_0,.int .i64 a0_1] 30 ?_;intro bb1 hg w1 hbox hb;have BK1:=aM (hbox);have GE1:=aG hg HB;replace HB:=aS HB hb;clear hb hbox hg;have hcz:=cZ2 BK1.out) | ((with_reducible refine gate_callee (f:=17) rfl ?_);refine gB 17 19 Tryz.func17 (XaQ.calls _ _ l0_0 a0_1 1048576 s1 _ (rW HR0_0 HB HC0_0) E1.out) ?_;intro w2 hb;replace BK1:=aB BK1 hb;replace HB:=aS HB hb;clear hb) | ((with_reducible refine gate_callee (f:=18) rfl ?_);refine gD 18 24 Tryz.func18 (Xad.calls k _ _ l1 s1 s2 _ (rW HR1 HB HC1) E2.out) ?_;intro nw3_;have hcz2:=cZ2 BK1.out))
  go_ret
  exact⟨rE,(hX HB.out)⟩
 rw[if_neg c2_] at H
 have c2b:=decide_eq_false c2_
 clear c2_
 replace H:=bE H;obtain⟨⟨p0,p1⟩,E3,H⟩:=H
 try dsimp only at H
 replace H:=bE H;obtain⟨pl,E4,H⟩:=H
 try dsimp only at H
 replace H:=bE H;obtain⟨⟨v0,v1,v2,v3,v4,v5,v6,v7,vb⟩,E5,H⟩:=H
 try dsimp only at H
 replace H:=bE H;obtain⟨⟨x0,x1⟩,E6,H⟩:=H
 try dsimp only at H
 replace H:=bE H;obtain⟨y,E7,H⟩:=H
 try dsimp only at H
 replace H:=bE H;obtain⟨⟨g0,g1,g2,g3,g4,g5,g6,g7,gb⟩,E8,H⟩:=H
 try dsimp only at H
 replace H:=bE H;obtain⟨e1,E9,H⟩:=H
 try dsimp only at H
 replace H:=ifT H;obtain⟨rfl,H⟩:=H
 replace H:=ifT H;obtain⟨cb1_,H⟩:=H
 try dsimp only at cb1_
 subst cb1_
 replace H:=bE H;obtain⟨⟨u0,u1⟩,E10,H⟩:=H
 try dsimp only at H
 replace H:=bE H;obtain⟨e2,E11,H⟩:=H
 try dsimp only at H
 replace H:=ifT H;obtain⟨rfl,H⟩:=H
 replace H:=bE H;obtain⟨ul,E12,H⟩:=H
 try dsimp only at H
 replace H:=bE H;obtain⟨e3,E13,H⟩:=H
 try dsimp only at H
 replace H:=ifT H;obtain⟨rfl,H⟩:=H
 replace H:=bE H;obtain⟨⟨m1,mx⟩,E14,H⟩:=H
 try dsimp only at H
 replace H:=bE H;obtain⟨⟨m2,my⟩,E15,H⟩:=H
 try dsimp only at H
 replace H:=ifF H;obtain⟨c3_,H⟩:=H;have c3b:=decide_eq_false c3_;clear c3_
 try dsimp only at c3b
 replace H:=bE H;obtain⟨e4,E16,H⟩:=H
 try dsimp only at H
 replace H:=ifT H;obtain⟨rfl,H⟩:=H
 replace H:=ifT H;obtain⟨cg_,H⟩:=H
 try dsimp only at cg_
 replace cg_:=aM cg_
 unfold XU.g at H
 try dsimp only at H
 replace H:=bE H;obtain⟨⟨mz,z0,z1,z2,z4,z5,z6⟩,E17,H⟩:=H
 try dsimp only at H
 replace H:=bE H;obtain⟨q,E18,H⟩:=H
 try dsimp only at H
 replace H:=ifF H;obtain⟨c4_,H⟩:=H;have c4b:=decide_eq_false c4_;clear c4_
 replace H:=ifT H;obtain⟨c5_,H⟩:=H
 try dsimp only at c5_
 obtain⟨c5a,c5b⟩:=eqT c5_
 replace H:=bE H;obtain⟨⟨r0,r1⟩,E19,H⟩:=H
 try dsimp only at H
 replace H:=bE H;obtain⟨rl,E20,H⟩:=H
 try dsimp only at H
 replace H:=bE H;obtain⟨⟨h0,h1,h2,h3,h4,h5,h6,h7,hb9⟩,E21,H⟩:=H
 try dsimp only at H
 replace H:=bE H;obtain⟨e5,E22,H⟩:=H
 try dsimp only at H
 replace H:=ifT H;obtain⟨rfl,H⟩:=H
 replace H:=ifT H;obtain⟨cb2_,H⟩:=H
 try dsimp only at cb2_
 replace cb2_:=cb2_.symm
 subst cb2_
 replace H:=bE H;obtain⟨q2,E23,H⟩:=H
 try dsimp only at H
 replace H:=ifF H;obtain⟨c6_,H⟩:=H;have c6b:=decide_eq_false c6_;clear c6_
 replace H:=ifT H;obtain⟨c7_,H⟩:=H
 try dsimp only at c7_
 obtain⟨c7a,c7b⟩:=eqT c7_
 clear H c5_ c7_
 go_wp2_with (first | ((with_reducible refine gate_dst (N:=2) rfl ?_);refine boxE 2 #[.slice A0_0 l0_0.length c0_0,.int .i64 a0_1] 30 ?_;intro bb1 hg w1 hbox hb;have BK1:=aM (hbox);have GE1:=aG hg HB;replace HB:=aS HB hb;clear hb hbox hg;have hcz:=cZ2 BK1.out) | ((with_reducible refine gate_callee (f:=17) rfl ?_);refine gB 17 19 Tryz.func17 (XaQ.calls _ _ l0_0 a0_1 1048576 s1 _ (rW HR0_0 HB HC0_0) E1.out) ?_;intro w2 hb;replace BK1:=aB BK1 hb;replace HB:=aS HB hb;clear hb) | ((with_reducible refine gate_callee (f:=18) rfl ?_);refine gD 18 24 Tryz.func18 (Xad.calls k _ _ l1 s1 s2 _ (rW HR1 HB HC1) E2.out) ?_;intro nw3_;have hcz2:=cZ2 BK1.out) | ((with_reducible refine gate_callee (f:=20) rfl ?_);refine goesM 20 29 Tryz.func20 #[.agg #[.slice A0_0 l0_0.length c0_0,.int .i64 a0_1]] ?_;refine(Xao.calls k _ _ l0_0 a0_1 p0 p1 _ (rW HR0_0 HB HC0_0) E3.out).mono ?_;rintro e w4 ⟨vp,rfl,hp0,hb⟩;refine⟨_,rfl,?_⟩;have HP0:=aM hp0;replace BK1:=aB BK1 hb;replace HB:=aS HB hb;clear hb hp0;obtain⟨Ap0,cp0,es_⟩:=Kd.R_slice HP0.out;subst es_) | ((with_reducible refine gate_callee (f:=21) rfl ?_);refine goesM 21 31 Tryz.func21 #[.slice A1 l1.length c1] ?_;refine(XJ.calls k _ _ l1 pl _ (rW HR1 HB HC1) E4.out).mono ?_;rintro e w5 ⟨vpl,rfl,hpl,hb⟩;refine⟨_,rfl,?_⟩;have HPL:=aM hpl;replace HP0:=aQ HP0 hb;replace BK1:=aB BK1 hb;replace HB:=aS HB hb;clear hb hpl;obtain⟨Apl,cpl,es_⟩:=Kd.S_slice HPL.out;subst es_) | ((with_reducible refine gate_callee (f:=19) rfl ?_);refine goesM 19 32 Tryz.func19 #[.agg #[.slice Ap0 p0.length cp0,.int .i64 p1],.slice Apl pl.length cpl] ?_;refine(Xo.calls k _ _ p0 p1 _ _ pl v0 v1 v2 v3 v4 v5 v6 v7 gb _ (rw2 (rD HP0.out) (rL HP0.out)) (rw2 (sD HPL.out) (sL HPL.out)) E5.out).mono ?_;rintro e w6 ⟨vv0,vv1,vv2,vv4,vv5,vv6,rfl,hv0,hv1,hv2,hv4,hv5,hv6,hb⟩;refine⟨_,rfl,?_⟩;have Hv0:=aM (Kd.R_lower hv0 (below_size (hX HB.out)));have Hv1:=aM (Kd.S_lower hv1 (below_size (hX HB.out)));have Hv2:=aM (Kd.S_lower hv2 (below_size (hX HB.out)));have Hv4:=aM (Kd.S_lower hv4 (below_size (hX HB.out)));have Hv5:=aM (Kd.R_lower hv5 (below_size (hX HB.out)));have Hv6:=aM (Kd.R_lower hv6 (below_size (hX HB.out)));replace BK1:=aB BK1 hb;replace HB:=aS HB hb;clear hb HP0 HPL hv0 hv1 hv2 hv4 hv5 hv6) | ((with_reducible refine gate_dst (N:=6) rfl ?_);refine boxE 6 #[.slice none 0 0,.slice none 0 0,.slice none 0 0,.int .i64 0,.slice none 0 0,.slice none 0 0,.slice none 0 0,.int .i64 0] 43 ?_;intro bb2 hg w7 hbox hb;have BK2:=aM (hbox);have GE2:=aG hg HB;have NA12:=aL hg BK1;have NB12:=aR hg BK1;have na12:=NA12.out;have nb12:=NB12.out;replace Hv0:=aQ Hv0 hb;replace Hv1:=aT Hv1 hb;replace Hv2:=aT Hv2 hb;replace Hv4:=aT Hv4 hb;replace Hv5:=aQ Hv5 hb;replace Hv6:=aQ Hv6 hb;replace BK1:=aB BK1 hb;replace HB:=aS HB hb;clear hb hbox hg;obtain⟨Av0,cv0,es_⟩:=Kd.R_slice Hv0.out;subst es_;obtain⟨Av1,cv1,es_⟩:=Kd.S_slice Hv1.out;subst es_;obtain⟨Av2,cv2,es_⟩:=Kd.S_slice Hv2.out;subst es_;obtain⟨Av4,cv4,es_⟩:=Kd.S_slice Hv4.out;subst es_;obtain⟨Av5,cv5,es_⟩:=Kd.R_slice Hv5.out;subst es_;obtain⟨Av6,cv6,es_⟩:=Kd.R_slice Hv6.out;subst es_;have hczb:=cZ8 BK2.out;have hczc:=cZ2 BK1.out) | ((with_reducible refine gate_callee (f:=20) rfl ?_);refine goesM 20 36 Tryz.func20 #[.agg #[.slice A0_0 l0_0.length c0_0,.int .i64 a0_1]] ?_;refine Stop.out ?_))
 refine⟨?_⟩
 refine(Xao.calls k _ _ l0_0 a0_1 x0 x1 _ (rw2 (by exact Kd.C_below HR0_0.out (hX HB.out)) HC0_0.out) E6.out).mono ?_
 rintro e w8 ⟨vx0,rfl,hx0,hb⟩
 refine⟨_,rfl,?_⟩
 have hg2:=lt_of_blk (cs:=#[.slice Av0 v0.length cv0,.slice Av1 v1.length cv1,.slice Av2 v2.length cv2,.int .i64 v3,.slice Av4 v4.length cv4,.slice Av5 v5.length cv5,.slice Av6 v6.length cv6,.int .i64 v7]) hb (bP BK2.out)
 have hg1:=lt_of_blk hb (bF BK1.out)
 have j0:=Kd.R_old (rF Hv0.out BK2.out) hb
 have j1:=Kd.S_old (sF Hv1.out BK2.out) hb
 have j2:=Kd.S_old (sF Hv2.out BK2.out) hb
 have j3:=Kd.S_old (sF Hv4.out BK2.out) hb
 have j4:=Kd.R_old (rF Hv5.out BK2.out) hb
 have j5:=Kd.R_old (rF Hv6.out BK2.out) hb
 have i0:=R_from hx0 (below_size (hX HB.out))
 obtain⟨n,hg2,hg1,hsz,j0,j1,j2,j3,j4,j5,i0⟩:∃ n:Nat,bb2<n∧bb1<n∧n≤w8.heap.size∧Kd.R k140 140 w8 w.heap.size (fun k=>True∧k<n) (.slice Av0 v0.length cv0) v0∧Kd.S k162 162 w8 w.heap.size (fun k=>(some k ≠ (.slice Av5 v5.length cv5:Value).ownBlock∧some k ≠ (.slice Av6 v6.length cv6:Value).ownBlock)∧k<n) (.slice Av1 v1.length cv1) v1∧Kd.S k97 97 w8 w.heap.size (fun k=>True∧k<n) (.slice Av2 v2.length cv2) v2∧Kd.S k73 73 w8 w.heap.size (fun k=>(some k ≠ (.slice Av5 v5.length cv5:Value).ownBlock∧some k ≠ (.slice Av6 v6.length cv6:Value).ownBlock)∧k<n) (.slice Av4 v4.length cv4) v4∧Kd.R (Kd.int .i64) 3 w8 w.heap.size (fun k=>some k ≠ (.slice Av6 v6.length cv6:Value).ownBlock∧k<n) (.slice Av5 v5.length cv5) v5∧Kd.R (Kd.int .i64) 3 w8 w.heap.size (fun k=>some k ≠ (.slice Av5 v5.length cv5:Value).ownBlock∧k<n) (.slice Av6 v6.length cv6) v6∧Kd.R (Kd.int .i64) 3 w8 w.heap.size (fun k=>True∧n≤k) vx0 x0:=⟨_,hg2,hg1,hb.size,j0,j1,j2,j3,j4,j5,i0⟩
 have L2n:=aM hg2
 have L1n:=aM hg1
 have Zn:=aM hsz
 replace Hv0:=aM j0
 replace Hv1:=aM j1
 replace Hv2:=aM j2
 replace Hv4:=aM j3
 replace Hv5:=aM j4
 replace Hv6:=aM j5
 have Hx0:=aM i0
 replace BK2:=aM (blk_below (g:=bb2) (o:=.cells #[.slice Av0 v0.length cv0,.slice Av1 v1.length cv1,.slice Av2 v2.length cv2,.int .i64 v3,.slice Av4 v4.length cv4,.slice Av5 v5.length cv5,.slice Av6 v6.length cv6,.int .i64 v7] 43 (0,0)) (bP BK2.out) hb)
 replace BK1:=aF BK1 hb
 replace HB:=aS HB hb
 clear hg2 hg1 hsz j0 j1 j2 j3 j4 j5 i0
 clear hb hx0
 go_wp2_with (first | ((with_reducible refine gate_dst (N:=8) rfl ?_);refine boxE 8 #[.slice none 0 0,.int .i64 0] 41 ?_;intro bb3 hg w9 hbox hb;have BK3:=aM (hbox);have GE3:=aG hg HB;have NA23:=aL hg BK2;have NB23:=aR hg BK2;have na23:=NA23.out;have nb23:=NB23.out;have NA13:=aL hg BK1;have NB13:=aR hg BK1;have na13:=NA13.out;have nb13:=NB13.out;replace Hv0:=aQ Hv0 hb;replace Hv1:=aT Hv1 hb;replace Hv2:=aT Hv2 hb;replace Hv4:=aT Hv4 hb;replace Hv5:=aQ Hv5 hb;replace Hv6:=aQ Hv6 hb;replace Hx0:=aQ Hx0 hb;replace BK2:=aB BK2 hb;replace BK1:=aB BK1 hb;replace HB:=aS HB hb;have hgn_:=Nat.le_trans Zn.out (Nat.le_of_eq hg.symm);clear hb hbox hg;obtain⟨Ax0,cx0,es_⟩:=Kd.R_slice Hx0.out;subst es_;have hN3:=aM hgn_;clear hgn_;have hczd:=cZ2 BK3.out) | ((with_reducible refine gate_callee (f:=21) rfl ?_);refine goesM 21 38 Tryz.func21 #[.slice A1 l1.length c1] ?_;refine Stop.out ?_))
 refine⟨?_⟩
 refine(XJ.calls k _ _ l1 y _ (rw2 (by exact Kd.C_below HR1.out (hX HB.out)) HC1.out) E7.out).mono ?_
 rintro e w10 ⟨vy,rfl,hy,hb⟩
 refine⟨_,rfl,?_⟩
 have hlt3:=lt_of_blk (cs:=#[.slice Ax0 x0.length cx0,.int .i64 x1]) hb (bP BK3.out)
 have Hy:=aM (Kd.S_mono (S_from hy (below_size (hX HB.out))) (fun k hk=>(show True∧n≤k from ⟨trivial,Nat.le_trans hN3.out (Nat.le_trans (Nat.le_of_lt hlt3) hk.2)⟩)))
 clear hlt3
 replace Hv0:=aM (Kd.R_below (rF Hv0.out BK3.out) hb)
 replace Hv1:=aM (Kd.S_below (sF Hv1.out BK3.out) hb)
 replace Hv2:=aM (Kd.S_below (sF Hv2.out BK3.out) hb)
 replace Hv4:=aM (Kd.S_below (sF Hv4.out BK3.out) hb)
 replace Hv5:=aM (Kd.R_below (rF Hv5.out BK3.out) hb)
 replace Hv6:=aM (Kd.R_below (rF Hv6.out BK3.out) hb)
 replace Hx0:=aM (Kd.R_below (rF Hx0.out BK3.out) hb)
 replace BK3:=aM (blk_below (g:=bb3) (o:=.cells #[.slice Ax0 x0.length cx0,.int .i64 x1] 41 (0,0)) (bP BK3.out) hb)
 replace BK2:=aF BK2 hb
 replace BK1:=aF BK1 hb
 replace HB:=aS HB hb
 clear hb hy
 obtain⟨Ay,cy,es_⟩:=Kd.S_slice Hy.out
 subst es_
 have hcze:=cZ2 BK3.out
 go_wp2_with (first | ((with_reducible refine gate_callee (f:=22) rfl ?_);refine goesM 22 42 Tryz.func22 #[.agg #[.slice Ax0 x0.length cx0,.int .i64 x1],.slice Ay y.length cy] ?_;refine Stop.out ?_))
 refine⟨?_⟩
 refine(Xl.calls k _ _ x0 x1 _ _ y g0 g1 g2 g3 g4 g5 g6 g7 gb _ (rw2 (rD Hx0.out) (rL Hx0.out)) (rw2 (sD Hy.out) (sL Hy.out)) E8.out).mono ?_
 rintro e w11 ⟨vg0,vg1,vg2,vg4,vg5,vg6,rfl,hg0_,hg1_,hg2_,hg4_,hg5_,hg6_,hb⟩
 refine⟨_,rfl,?_⟩
 have hg3:=lt_of_blk hb (bX BK3.out)
 have hg2:=lt_of_blk hb (bX BK2.out)
 have hg1:=lt_of_blk hb (bX BK1.out)
 have j0:=Kd.R_below (rX Hv0.out) hb
 have j1:=Kd.S_below (sX Hv1.out) hb
 have j2:=Kd.S_below (sX Hv2.out) hb
 have j3:=Kd.S_below (sX Hv4.out) hb
 have j4:=Kd.R_below (rX Hv5.out) hb
 have j5:=Kd.R_below (rX Hv6.out) hb
 have j6:=Kd.R_old (rX Hx0.out) hb
 have j7:=Kd.S_old (sX Hy.out) hb
 have i0:=R_from hg0_ (below_size (hX HB.out))
 have i1:=S_from hg1_ (below_size (hX HB.out))
 have i2:=S_from hg2_ (below_size (hX HB.out))
 have i3:=S_from hg4_ (below_size (hX HB.out))
 have i4:=R_from hg5_ (below_size (hX HB.out))
 have i5:=R_from hg6_ (below_size (hX HB.out))
 obtain⟨M,hg3,hg2,hg1,hsz,j0,j1,j2,j3,j4,j5,j6,j7,i0,i1,i2,i3,i4,i5⟩:∃ M:Nat,bb3<M∧bb2<M∧bb1<M∧M≤w11.heap.size∧Kd.R k140 140 w11 w.heap.size (fun k=>True∧k<n) (.slice Av0 v0.length cv0) v0∧Kd.S k162 162 w11 w.heap.size (fun k=>(some k ≠ (.slice Av5 v5.length cv5:Value).ownBlock∧some k ≠ (.slice Av6 v6.length cv6:Value).ownBlock)∧k<n) (.slice Av1 v1.length cv1) v1∧Kd.S k97 97 w11 w.heap.size (fun k=>True∧k<n) (.slice Av2 v2.length cv2) v2∧Kd.S k73 73 w11 w.heap.size (fun k=>(some k ≠ (.slice Av5 v5.length cv5:Value).ownBlock∧some k ≠ (.slice Av6 v6.length cv6:Value).ownBlock)∧k<n) (.slice Av4 v4.length cv4) v4∧Kd.R (Kd.int .i64) 3 w11 w.heap.size (fun k=>some k ≠ (.slice Av6 v6.length cv6:Value).ownBlock∧k<n) (.slice Av5 v5.length cv5) v5∧Kd.R (Kd.int .i64) 3 w11 w.heap.size (fun k=>some k ≠ (.slice Av5 v5.length cv5:Value).ownBlock∧k<n) (.slice Av6 v6.length cv6) v6∧Kd.R (Kd.int .i64) 3 w11 w.heap.size (fun k=>(True∧n≤k)∧k<M) (.slice Ax0 x0.length cx0) x0∧Kd.S (Kd.slice 69 k69) 93 w11 w.heap.size (fun k=>(True∧n≤k)∧k<M) (.slice Ay y.length cy) y∧Kd.R k140 140 w11 w.heap.size (fun k=>True∧M≤k) vg0 g0∧Kd.S k162 162 w11 w.heap.size (fun k=>(some k ≠ (vg5:Value).ownBlock∧some k ≠ (vg6:Value).ownBlock)∧M≤k) vg1 g1∧Kd.S k97 97 w11 w.heap.size (fun k=>True∧M≤k) vg2 g2∧Kd.S k73 73 w11 w.heap.size (fun k=>(some k ≠ (vg5:Value).ownBlock∧some k ≠ (vg6:Value).ownBlock)∧M≤k) vg4 g4∧Kd.R (Kd.int .i64) 3 w11 w.heap.size (fun k=>some k ≠ (vg6:Value).ownBlock∧M≤k) vg5 g5∧Kd.R (Kd.int .i64) 3 w11 w.heap.size (fun k=>some k ≠ (vg5:Value).ownBlock∧M≤k) vg6 g6:=⟨_,hg3,hg2,hg1,hb.size,j0,j1,j2,j3,j4,j5,j6,j7,i0,i1,i2,i3,i4,i5⟩
 have L3M:=aM hg3
 have L2M:=aM hg2
 have L1M:=aM hg1
 have ZM:=aM hsz
 replace Hv0:=aM j0
 replace Hv1:=aM j1
 replace Hv2:=aM j2
 replace Hv4:=aM j3
 replace Hv5:=aM j4
 replace Hv6:=aM j5
 replace Hx0:=aM j6
 replace Hy:=aM j7
 have Hg0:=aM i0
 have Hg1:=aM i1
 have Hg2:=aM i2
 have Hg4:=aM i3
 have Hg5:=aM i4
 have Hg6:=aM i5
 replace BK3:=aB BK3 hb
 replace BK2:=aB BK2 hb
 replace BK1:=aB BK1 hb
 replace HB:=aS HB hb
 have hNM:=aM (Nat.le_trans hN3.out (Nat.le_of_lt L3M.out))
 clear hg3 hg2 hg1 hsz j0 j1 j2 j3 j4 j5 j6 j7 i0 i1 i2 i3 i4 i5
 clear hb hg0_ hg1_ hg2_ hg4_ hg5_ hg6_
 go_wp2_with (first | ((with_reducible refine gate_dst (N:=10) rfl ?_);refine boxE 10 #[.slice none 0 0,.slice none 0 0,.slice none 0 0,.int .i64 0,.slice none 0 0,.slice none 0 0,.slice none 0 0,.int .i64 0] 43 ?_;intro bb4 hg w12 hbox hb;have BK4:=aM (hbox);have GE4:=aG hg HB;have NA34:=aL hg BK3;have NB34:=aR hg BK3;have na34:=NA34.out;have nb34:=NB34.out;have NA24:=aL hg BK2;have NB24:=aR hg BK2;have na24:=NA24.out;have nb24:=NB24.out;have NA14:=aL hg BK1;have NB14:=aR hg BK1;have na14:=NA14.out;have nb14:=NB14.out;replace Hv0:=aQ Hv0 hb;replace Hv1:=aT Hv1 hb;replace Hv2:=aT Hv2 hb;replace Hv4:=aT Hv4 hb;replace Hv5:=aQ Hv5 hb;replace Hv6:=aQ Hv6 hb;replace Hx0:=aQ Hx0 hb;replace Hy:=aT Hy hb;replace Hg0:=aQ Hg0 hb;replace Hg1:=aT Hg1 hb;replace Hg2:=aT Hg2 hb;replace Hg4:=aT Hg4 hb;replace Hg5:=aQ Hg5 hb;replace Hg6:=aQ Hg6 hb;replace BK3:=aB BK3 hb;replace BK2:=aB BK2 hb;replace BK1:=aB BK1 hb;replace HB:=aS HB hb;clear hb hbox hg;obtain⟨Ag0,cg0,es_⟩:=Kd.R_slice Hg0.out;subst es_;obtain⟨Ag1,cg1,es_⟩:=Kd.S_slice Hg1.out;subst es_;obtain⟨Ag2,cg2,es_⟩:=Kd.S_slice Hg2.out;subst es_;obtain⟨Ag4,cg4,es_⟩:=Kd.S_slice Hg4.out;subst es_;obtain⟨Ag5,cg5,es_⟩:=Kd.R_slice Hg5.out;subst es_;obtain⟨Ag6,cg6,es_⟩:=Kd.R_slice Hg6.out;subst es_;have hczf:=cZ8 BK4.out;have hczg:=cZ8 BK2.out) | ((with_reducible refine gate_callee (f:=14) rfl ?_);refine Stop.out ?_))
 refine⟨?_⟩
 refine gB 14 47 Tryz.func14 (Xal.calls k _ _ g0 _ _ g1 _ _ g2 g3 _ _ g4 _ _ g5 _ _ g6 g7 _ _ v0 _ _ v1 _ _ v2 v3 _ _ v4 _ _ v5 _ _ v6 v7 true _ (rw2 (rR Hg0.out BK4.out) (rL Hg0.out)) (rw2 (sR Hg1.out BK4.out) (sL Hg1.out)) (rw2 (sR Hg2.out BK4.out) (sL Hg2.out)) (rw2 (sR Hg4.out BK4.out) (sL Hg4.out)) (rw2 (rR Hg5.out BK4.out) (rL Hg5.out)) (rw2 (rR Hg6.out BK4.out) (rL Hg6.out)) (rw2 (rR Hv0.out BK4.out) (rL Hv0.out)) (rw2 (sR Hv1.out BK4.out) (sL Hv1.out)) (rw2 (sR Hv2.out BK4.out) (sL Hv2.out)) (rw2 (sR Hv4.out BK4.out) (sL Hv4.out)) (rw2 (rR Hv5.out BK4.out) (rL Hv5.out)) (rw2 (rR Hv6.out BK4.out) (rL Hv6.out)) E9.out) ?_
 intro w13 hb
 replace Hv0:=aM (Kd.R_below (rF Hv0.out BK4.out) hb)
 replace Hv1:=aM (Kd.S_below (sF Hv1.out BK4.out) hb)
 replace Hv2:=aM (Kd.S_below (sF Hv2.out BK4.out) hb)
 replace Hv4:=aM (Kd.S_below (sF Hv4.out BK4.out) hb)
 replace Hv5:=aM (Kd.R_below (rF Hv5.out BK4.out) hb)
 replace Hv6:=aM (Kd.R_below (rF Hv6.out BK4.out) hb)
 replace Hx0:=aM (Kd.R_below (rF Hx0.out BK4.out) hb)
 replace Hy:=aM (Kd.S_below (sF Hy.out BK4.out) hb)
 replace Hg0:=aM (Kd.R_below (rF Hg0.out BK4.out) hb)
 replace Hg1:=aM (Kd.S_below (sF Hg1.out BK4.out) hb)
 replace Hg2:=aM (Kd.S_below (sF Hg2.out BK4.out) hb)
 replace Hg4:=aM (Kd.S_below (sF Hg4.out BK4.out) hb)
 replace Hg5:=aM (Kd.R_below (rF Hg5.out BK4.out) hb)
 replace Hg6:=aM (Kd.R_below (rF Hg6.out BK4.out) hb)
 replace BK4:=aM (blk_below (g:=bb4) (o:=.cells #[.slice Ag0 g0.length cg0,.slice Ag1 g1.length cg1,.slice Ag2 g2.length cg2,.int .i64 g3,.slice Ag4 g4.length cg4,.slice Ag5 g5.length cg5,.slice Ag6 g6.length cg6,.int .i64 g7] 43 (0,0)) (bP BK4.out) hb)
 replace BK3:=aF BK3 hb
 replace BK2:=aF BK2 hb
 replace BK1:=aF BK1 hb
 replace HB:=aS HB hb
 clear hb
 go_wp2_with fail
 replace BK4:=aM (blk_drew BK4.out)
 replace BK3:=aM (blk_drew BK3.out)
 replace BK2:=aM (blk_drew BK2.out)
 replace BK1:=aM (blk_drew BK1.out)
 replace HB:=aM (below_drew1 HB.out)
 replace Hv0:=aM (Kd.R_drew Hv0.out)
 replace Hv1:=aM (Kd.S_drew Hv1.out)
 replace Hv2:=aM (Kd.S_drew Hv2.out)
 replace Hv4:=aM (Kd.S_drew Hv4.out)
 replace Hv5:=aM (Kd.R_drew Hv5.out)
 replace Hv6:=aM (Kd.R_drew Hv6.out)
 replace Hx0:=aM (Kd.R_drew Hx0.out)
 replace Hy:=aM (Kd.S_drew Hy.out)
 replace Hg0:=aM (Kd.R_drew Hg0.out)
 replace Hg1:=aM (Kd.S_drew Hg1.out)
 replace Hg2:=aM (Kd.S_drew Hg2.out)
 replace Hg4:=aM (Kd.S_drew Hg4.out)
 replace Hg5:=aM (Kd.R_drew Hg5.out)
 replace Hg6:=aM (Kd.R_drew Hg6.out)
 refine start_ (n:=5) (S:=fun w'=>w'.cell? ⟨bb3,0,none⟩=some (.slice Ax0 x0.length cx0)∧w'.cell? ⟨bb3,1,none⟩=some (.int .i64 x1)∧w'.cell? ⟨bb1,0,none⟩=some (.slice A0_0 l0_0.length c0_0)∧w'.cell? ⟨bb1,1,none⟩=some (.int .i64 a0_1)) (ds:=[]) (bm 5 0) (by kernel_rfl) rfl (by kernel_rfl) ⟨cK BK3.out 0,cK BK3.out 1,cK BK1.out 0,cK BK1.out 1⟩ (fun hHeld => ?_)
 generalize w13.drew=w14 at BK4 BK3 BK2 BK1 HB Hv0 Hv1 Hv2 Hv4 Hv5 Hv6 Hx0 Hy Hg0 Hg1 Hg2 Hg4 Hg5 Hg6 hHeld ⊢
 refine tK 0 54 (bm 5 1) hHeld ?_
 refine tK 1 55 (bm 5 3) hHeld ?_
 refine oK 2 (some 56) (bm 5 7) (fun K hK => ?_)
 refine goesN Tryz.func20 #[.agg #[.slice A0_0 l0_0.length c0_0,.int .i64 a0_1]] ?_
 refine(Xao.calls k _ _ l0_0 a0_1 u0 u1 _ (rW HR0_0 HB HC0_0) E10.out).mono ?_
 rintro e w15 ⟨vu,rfl,hu_,hb⟩
 refine⟨_,rfl,?_⟩
 have HU:=aM hu_
 replace Hv0:=aQ Hv0 hb;replace Hv1:=aT Hv1 hb;replace Hv2:=aT Hv2 hb;replace Hv4:=aT Hv4 hb;replace Hv5:=aQ Hv5 hb;replace Hv6:=aQ Hv6 hb;replace Hx0:=aQ Hx0 hb;replace Hy:=aT Hy hb;replace Hg0:=aQ Hg0 hb;replace Hg1:=aT Hg1 hb;replace Hg2:=aT Hg2 hb;replace Hg4:=aT Hg4 hb;replace Hg5:=aQ Hg5 hb;replace Hg6:=aQ Hg6 hb;replace BK4:=aB BK4 hb;replace BK3:=aB BK3 hb;replace BK2:=aB BK2 hb;replace BK1:=aB BK1 hb;replace HB:=aS HB hb
 clear hb hu_
 obtain⟨Au0,cu0,es_⟩:=Kd.R_slice HU.out
 subst es_
 refine hK.out _ _ ⟨cK BK3.out 0,cK BK3.out 1,cK BK1.out 0,cK BK1.out 1⟩ (fun hHeld => ?_)
 clear hK K
 refine nZ 56 ?_
 refine oK 3 (some 57) (bm 5 15) (fun K hK => ?_)
 refine goesN Tryz.func23 #[.agg #[.slice Ax0 x0.length cx0,.int .i64 x1],.agg #[.slice Au0 u0.length cu0,.int .i64 u1]] ?_
 refine(Xar.calls k _ _ x0 x1 _ _ u0 u1 true _ (rw2 (rD Hx0.out) (rL Hx0.out)) (rw2 (rD HU.out) (rL HU.out)) E11.out).mono ?_
 rintro e w16 ⟨rfl,hb⟩
 refine⟨_,rfl,?_⟩
 replace Hv0:=aQ Hv0 hb;replace Hv1:=aT Hv1 hb;replace Hv2:=aT Hv2 hb;replace Hv4:=aT Hv4 hb;replace Hv5:=aQ Hv5 hb;replace Hv6:=aQ Hv6 hb;replace Hx0:=aQ Hx0 hb;replace Hy:=aT Hy hb;replace Hg0:=aQ Hg0 hb;replace Hg1:=aT Hg1 hb;replace Hg2:=aT Hg2 hb;replace Hg4:=aT Hg4 hb;replace Hg5:=aQ Hg5 hb;replace Hg6:=aQ Hg6 hb;replace BK4:=aB BK4 hb;replace BK3:=aB BK3 hb;replace BK2:=aB BK2 hb;replace BK1:=aB BK1 hb;replace HB:=aS HB hb
 clear hb HU
 refine hK.out _ _ ⟨cK BK3.out 0,cK BK3.out 1,cK BK1.out 0,cK BK1.out 1⟩ (fun hHeld => ?_)
 clear hK K hHeld
 refine nZ 57 ?_
 refine pK 4 58 (bm 5 31) ?_
 refine done_ (by kernel_rfl) ?_
 go_wp2_with (first | ((with_reducible refine gate_callee (f:=21) rfl ?_);refine goesM 21 61 Tryz.func21 #[.slice A1 l1.length c1] ?_;refine(XJ.calls k _ _ l1 ul _ (rW HR1 HB HC1) E12.out).mono ?_;rintro e w17 ⟨vul,rfl,hul,hb⟩;refine⟨_,rfl,?_⟩;have HUL:=aM hul;replace Hv0:=aQ Hv0 hb;replace Hv1:=aT Hv1 hb;replace Hv2:=aT Hv2 hb;replace Hv4:=aT Hv4 hb;replace Hv5:=aQ Hv5 hb;replace Hv6:=aQ Hv6 hb;replace Hx0:=aQ Hx0 hb;replace Hy:=aT Hy hb;replace Hg0:=aQ Hg0 hb;replace Hg1:=aT Hg1 hb;replace Hg2:=aT Hg2 hb;replace Hg4:=aT Hg4 hb;replace Hg5:=aQ Hg5 hb;replace Hg6:=aQ Hg6 hb;replace BK4:=aB BK4 hb;replace BK3:=aB BK3 hb;replace BK2:=aB BK2 hb;replace BK1:=aB BK1 hb;replace HB:=aS HB hb;clear hb hul;obtain⟨Aul,cul,es_⟩:=Kd.S_slice HUL.out;subst es_) | ((with_reducible refine gate_callee (f:=24) rfl ?_);refine gB 24 62 Tryz.func24 (XH.calls k _ _ y _ _ ul true _ (rw2 (sD Hy.out) (sL Hy.out)) (rw2 (sD HUL.out) (sL HUL.out)) E13.out) ?_;intro w18 hb;replace Hv0:=aQ Hv0 hb;replace Hv1:=aT Hv1 hb;replace Hv2:=aT Hv2 hb;replace Hv4:=aT Hv4 hb;replace Hv5:=aQ Hv5 hb;replace Hv6:=aQ Hv6 hb;replace Hx0:=aQ Hx0 hb;replace Hy:=aT Hy hb;replace Hg0:=aQ Hg0 hb;replace Hg1:=aT Hg1 hb;replace Hg2:=aT Hg2 hb;replace Hg4:=aT Hg4 hb;replace Hg5:=aQ Hg5 hb;replace Hg6:=aQ Hg6 hb;replace BK4:=aB BK4 hb;replace BK3:=aB BK3 hb;replace BK2:=aB BK2 hb;replace BK1:=aB BK1 hb;replace HB:=aS HB hb;clear hb;clear HUL;have hczh:=cZ2 BK3.out;refine Stop.out ?_))
 refine⟨?_⟩
 have HX':=Hx0.out.1
 have HXt:=Deep.own_ty Hx0.out
 have Hyt:=aM (Deep.S_ty (l:=[93,69]) Hy.out)
 clear Hy
 have BQ1:=BK1.out
 have BQ2:=BK2.out
 have BQ3:=BK3.out
 have BQ4:=BK4.out
 go_wp2_with (first | ((with_reducible refine gate_callee (f:=25) rfl ?_);refine goesM 25 66 Tryz.func25 #[.agg #[.slice Ax0 x0.length cx0,.int .i64 x1],.int .i64 1] ?_;refine(Xas.calls k (fun k_=>some k_=(Value.slice Ax0 x0.length cx0).ownBlock) _ x0 x1 1 m1 mx w _ (hX HB.out) (Kd.R_tight rfl Hx0.out) E14.out).mono ?_;rintro e w19 ⟨rfl,hm,hb,hkp⟩;refine⟨_,rfl,?_⟩;replace Hv0:=aM (Kd.R_kept Hv0.out hkp (fun k_ h_ e_=>Nat.lt_irrefl _ (Nat.lt_of_lt_of_le (h_.2) ((HX' k_ e_.symm).1.2))));replace Hv1:=aM (Kd.S_kept Hv1.out hkp (fun k_ h_ e_=>Nat.lt_irrefl _ (Nat.lt_of_lt_of_le (h_.2) ((HX' k_ e_.symm).1.2))));replace Hv2:=aM (Kd.S_kept Hv2.out hkp (fun k_ h_ e_=>Nat.lt_irrefl _ (Nat.lt_of_lt_of_le (h_.2) ((HX' k_ e_.symm).1.2))));replace Hv4:=aM (Kd.S_kept Hv4.out hkp (fun k_ h_ e_=>Nat.lt_irrefl _ (Nat.lt_of_lt_of_le (h_.2) ((HX' k_ e_.symm).1.2))));replace Hv5:=aM (Kd.R_kept Hv5.out hkp (fun k_ h_ e_=>Nat.lt_irrefl _ (Nat.lt_of_lt_of_le (h_.2) ((HX' k_ e_.symm).1.2))));replace Hv6:=aM (Kd.R_kept Hv6.out hkp (fun k_ h_ e_=>Nat.lt_irrefl _ (Nat.lt_of_lt_of_le (h_.2) ((HX' k_ e_.symm).1.2))));replace Hg0:=aM (Kd.R_kept Hg0.out hkp (fun k_ h_ e_=>Nat.lt_irrefl _ (Nat.lt_of_lt_of_le ((HX' k_ e_.symm).2) (h_.2))));replace Hg1:=aM (Kd.S_kept Hg1.out hkp (fun k_ h_ e_=>Nat.lt_irrefl _ (Nat.lt_of_lt_of_le ((HX' k_ e_.symm).2) (h_.2))));replace Hg2:=aM (Kd.S_kept Hg2.out hkp (fun k_ h_ e_=>Nat.lt_irrefl _ (Nat.lt_of_lt_of_le ((HX' k_ e_.symm).2) (h_.2))));replace Hg4:=aM (Kd.S_kept Hg4.out hkp (fun k_ h_ e_=>Nat.lt_irrefl _ (Nat.lt_of_lt_of_le ((HX' k_ e_.symm).2) (h_.2))));replace Hg5:=aM (Kd.R_kept Hg5.out hkp (fun k_ h_ e_=>Nat.lt_irrefl _ (Nat.lt_of_lt_of_le ((HX' k_ e_.symm).2) (h_.2))));replace Hg6:=aM (Kd.R_kept Hg6.out hkp (fun k_ h_ e_=>Nat.lt_irrefl _ (Nat.lt_of_lt_of_le ((HX' k_ e_.symm).2) (h_.2))));replace Hyt:=aM (Kd.S_kept Hyt.out hkp (fun k_ h_ e_=>Deep.Ty_no (l:=[93,69]) h_.2 (HXt k_ e_.symm) (by decide)));replace BK1:=aM (blk_kept BK1.out hkp (fun e_=>Deep.Ty_blk BK1.out (HXt _ e_.symm) (by decide)));replace BK2:=aM (blk_kept BK2.out hkp (fun e_=>Deep.Ty_blk BK2.out (HXt _ e_.symm) (by decide)));replace BK3:=aM (blk_kept BK3.out hkp (fun e_=>Deep.Ty_blk BK3.out (HXt _ e_.symm) (by decide)));replace BK4:=aM (blk_kept BK4.out hkp (fun e_=>Deep.Ty_blk BK4.out (HXt _ e_.symm) (by decide)));replace HB:=aM hb;clear hb hkp hm Hx0 HX' HXt) | ((with_reducible refine gate_callee (f:=26) rfl ?_);refine goesM 26 69 Tryz.func26 #[.slice Ay y.length cy,.int .i64 m1] ?_;refine(X9.calls k _ _ y m1 m2 my w _ (hX HB.out) Hyt.out E15.out).mono ?_;rintro e w20 ⟨rfl,hm,hb,hkp⟩;refine⟨_,rfl,?_⟩;replace Hv0:=aM (Kd.R_kept Hv0.out hkp (fun k_ h_ e_=>Nat.lt_irrefl _ (Nat.lt_of_lt_of_le (h_.2) (e_.1.1.2))));replace Hv1:=aM (Kd.S_kept Hv1.out hkp (fun k_ h_ e_=>Nat.lt_irrefl _ (Nat.lt_of_lt_of_le (h_.2) (e_.1.1.2))));replace Hv2:=aM (Kd.S_kept Hv2.out hkp (fun k_ h_ e_=>Nat.lt_irrefl _ (Nat.lt_of_lt_of_le (h_.2) (e_.1.1.2))));replace Hv4:=aM (Kd.S_kept Hv4.out hkp (fun k_ h_ e_=>Nat.lt_irrefl _ (Nat.lt_of_lt_of_le (h_.2) (e_.1.1.2))));replace Hv5:=aM (Kd.R_kept Hv5.out hkp (fun k_ h_ e_=>Nat.lt_irrefl _ (Nat.lt_of_lt_of_le (h_.2) (e_.1.1.2))));replace Hv6:=aM (Kd.R_kept Hv6.out hkp (fun k_ h_ e_=>Nat.lt_irrefl _ (Nat.lt_of_lt_of_le (h_.2) (e_.1.1.2))));replace Hg0:=aM (Kd.R_kept Hg0.out hkp (fun k_ h_ e_=>Nat.lt_irrefl _ (Nat.lt_of_lt_of_le (e_.1.2) (h_.2))));replace Hg1:=aM (Kd.S_kept Hg1.out hkp (fun k_ h_ e_=>Nat.lt_irrefl _ (Nat.lt_of_lt_of_le (e_.1.2) (h_.2))));replace Hg2:=aM (Kd.S_kept Hg2.out hkp (fun k_ h_ e_=>Nat.lt_irrefl _ (Nat.lt_of_lt_of_le (e_.1.2) (h_.2))));replace Hg4:=aM (Kd.S_kept Hg4.out hkp (fun k_ h_ e_=>Nat.lt_irrefl _ (Nat.lt_of_lt_of_le (e_.1.2) (h_.2))));replace Hg5:=aM (Kd.R_kept Hg5.out hkp (fun k_ h_ e_=>Nat.lt_irrefl _ (Nat.lt_of_lt_of_le (e_.1.2) (h_.2))));replace Hg6:=aM (Kd.R_kept Hg6.out hkp (fun k_ h_ e_=>Nat.lt_irrefl _ (Nat.lt_of_lt_of_le (e_.1.2) (h_.2))));replace BK1:=aM (blk_kept BK1.out hkp (fun e_=>Deep.Ty_blk BQ1 e_.2 (by decide)));replace BK2:=aM (blk_kept BK2.out hkp (fun e_=>Deep.Ty_blk BQ2 e_.2 (by decide)));replace BK3:=aM (blk_kept BK3.out hkp (fun e_=>Deep.Ty_blk BQ3 e_.2 (by decide)));replace BK4:=aM (blk_kept BK4.out hkp (fun e_=>Deep.Ty_blk BQ4 e_.2 (by decide)));replace HB:=aM hb;clear hb hkp hm Hyt BQ1 BQ2 BQ3 BQ4;have hczi:=cZ8 BK4.out;have hczj:=cZ8 BK2.out;refine Stop.out ?_))
 refine⟨?_⟩
 go_wp2_with (first | (go_at_call 14;(refine(Xal.calls k _ _ g0 _ _ g1 _ _ g2 g3 _ _ g4 _ _ g5 _ _ g6 g7 _ _ v0 _ _ v1 _ _ v2 v3 _ _ v4 _ _ v5 _ _ v6 v7 true _ (rw2 (rD Hg0.out) (rL Hg0.out)) (rw2 (sD Hg1.out) (sL Hg1.out)) (rw2 (sD Hg2.out) (sL Hg2.out)) (rw2 (sD Hg4.out) (sL Hg4.out)) (rw2 (rD Hg5.out) (rL Hg5.out)) (rw2 (rD Hg6.out) (rL Hg6.out)) (rw2 (rD Hv0.out) (rL Hv0.out)) (rw2 (sD Hv1.out) (sL Hv1.out)) (rw2 (sD Hv2.out) (sL Hv2.out)) (rw2 (sD Hv4.out) (sL Hv4.out)) (rw2 (rD Hv5.out) (rL Hv5.out)) (rw2 (rD Hv6.out) (rL Hv6.out)) E16.out).mono ?_);rintro e w21 ⟨rfl,hb⟩;replace Hv0:=aQ Hv0 hb;replace Hv1:=aT Hv1 hb;replace Hv2:=aT Hv2 hb;replace Hv4:=aT Hv4 hb;replace Hv5:=aQ Hv5 hb;replace Hv6:=aQ Hv6 hb;replace Hg0:=aQ Hg0 hb;replace Hg1:=aT Hg1 hb;replace Hg2:=aT Hg2 hb;replace Hg4:=aT Hg4 hb;replace Hg5:=aQ Hg5 hb;replace Hg6:=aQ Hg6 hb;replace BK4:=aB BK4 hb;replace BK3:=aB BK3 hb;replace BK2:=aB BK2 hb;replace BK1:=aB BK1 hb;replace HB:=aS HB hb;clear hb;have hczk:=cZ8 BK4.out) | ((with_reducible refine gate_callee (f:=27) rfl ?_);refine goesM 27 85 Tryz.func27 #[.agg #[.slice Ag0 g0.length cg0,.slice Ag1 g1.length cg1,.slice Ag2 g2.length cg2,.int .i64 g3,.slice Ag4 g4.length cg4,.slice Ag5 g5.length cg5,.slice Ag6 g6.length cg6,.int .i64 g7],.int .i64 1] ?_;refine Stop.out ?_))
 refine⟨?_⟩
 refine(XaB.new k _ _ _ _ _ _ _ _ _ _ _ _ g0 g1 g2 g3 g4 g5 g6 g7 1 mz z0 z1 z2 z4 z5 z6 w _ (hX HB.out) Hg0.out (Deep.S_ty (l:=[162,165,3]) Hg1.out) (List.length_eq_zero_iff.1 cg_.out) Hg4.out (Deep.S_ty (l:=[97,69,172,174]) Hg2.out) Hg5.out Hg6.out (fun _ h_=>h_.1.1.1) (fun _ h_=>h_.1.1.2) (fun _ h_=>h_.1) E17.out).mono ?_
 rintro e w22 ⟨rfl,hz0,hz1,hz2,hz4,hz5,hz6,hb,hkp⟩
 refine⟨_,rfl,?_⟩
 have GO0:=Hg0.out.1
 have GO4:=(Kd.S_R Hg4.out).1
 have GO5:=Hg5.out.1
 have GO6:=Hg6.out.1
 replace Hv0:=aM (Kd.R_kept Hv0.out hkp (fun k_ h_ e_=>e_.elim (fun e_=>Nat.lt_irrefl _ (Nat.lt_of_lt_of_le (Nat.lt_of_lt_of_le h_.2 hNM.out) ((GO0 _ e_.symm).2))) (fun e_=>e_.elim (fun e_=>Nat.lt_irrefl _ (Nat.lt_of_lt_of_le (Nat.lt_of_lt_of_le h_.2 hNM.out) (e_.1.2))) (fun e_=>e_.elim (fun e_=>Nat.lt_irrefl _ (Nat.lt_of_lt_of_le (Nat.lt_of_lt_of_le h_.2 hNM.out) (e_.1.2))) (fun e_=>e_.elim (fun e_=>Nat.lt_irrefl _ (Nat.lt_of_lt_of_le (Nat.lt_of_lt_of_le h_.2 hNM.out) ((GO4 _ e_.symm).2))) (fun e_=>e_.elim (fun e_=>Nat.lt_irrefl _ (Nat.lt_of_lt_of_le (Nat.lt_of_lt_of_le h_.2 hNM.out) ((GO5 _ e_.symm).2))) (fun e_=>Nat.lt_irrefl _ (Nat.lt_of_lt_of_le (Nat.lt_of_lt_of_le h_.2 hNM.out) ((GO6 _ e_.symm).2)))))))))
 replace Hv1:=aM (Kd.S_kept Hv1.out hkp (fun k_ h_ e_=>e_.elim (fun e_=>Nat.lt_irrefl _ (Nat.lt_of_lt_of_le (Nat.lt_of_lt_of_le h_.2 hNM.out) ((GO0 _ e_.symm).2))) (fun e_=>e_.elim (fun e_=>Nat.lt_irrefl _ (Nat.lt_of_lt_of_le (Nat.lt_of_lt_of_le h_.2 hNM.out) (e_.1.2))) (fun e_=>e_.elim (fun e_=>Nat.lt_irrefl _ (Nat.lt_of_lt_of_le (Nat.lt_of_lt_of_le h_.2 hNM.out) (e_.1.2))) (fun e_=>e_.elim (fun e_=>Nat.lt_irrefl _ (Nat.lt_of_lt_of_le (Nat.lt_of_lt_of_le h_.2 hNM.out) ((GO4 _ e_.symm).2))) (fun e_=>e_.elim (fun e_=>Nat.lt_irrefl _ (Nat.lt_of_lt_of_le (Nat.lt_of_lt_of_le h_.2 hNM.out) ((GO5 _ e_.symm).2))) (fun e_=>Nat.lt_irrefl _ (Nat.lt_of_lt_of_le (Nat.lt_of_lt_of_le h_.2 hNM.out) ((GO6 _ e_.symm).2)))))))))
 replace Hv2:=aM (Kd.S_kept Hv2.out hkp (fun k_ h_ e_=>e_.elim (fun e_=>Nat.lt_irrefl _ (Nat.lt_of_lt_of_le (Nat.lt_of_lt_of_le h_.2 hNM.out) ((GO0 _ e_.symm).2))) (fun e_=>e_.elim (fun e_=>Nat.lt_irrefl _ (Nat.lt_of_lt_of_le (Nat.lt_of_lt_of_le h_.2 hNM.out) (e_.1.2))) (fun e_=>e_.elim (fun e_=>Nat.lt_irrefl _ (Nat.lt_of_lt_of_le (Nat.lt_of_lt_of_le h_.2 hNM.out) (e_.1.2))) (fun e_=>e_.elim (fun e_=>Nat.lt_irrefl _ (Nat.lt_of_lt_of_le (Nat.lt_of_lt_of_le h_.2 hNM.out) ((GO4 _ e_.symm).2))) (fun e_=>e_.elim (fun e_=>Nat.lt_irrefl _ (Nat.lt_of_lt_of_le (Nat.lt_of_lt_of_le h_.2 hNM.out) ((GO5 _ e_.symm).2))) (fun e_=>Nat.lt_irrefl _ (Nat.lt_of_lt_of_le (Nat.lt_of_lt_of_le h_.2 hNM.out) ((GO6 _ e_.symm).2)))))))))
 replace Hv4:=aM (Kd.S_kept Hv4.out hkp (fun k_ h_ e_=>e_.elim (fun e_=>Nat.lt_irrefl _ (Nat.lt_of_lt_of_le (Nat.lt_of_lt_of_le h_.2 hNM.out) ((GO0 _ e_.symm).2))) (fun e_=>e_.elim (fun e_=>Nat.lt_irrefl _ (Nat.lt_of_lt_of_le (Nat.lt_of_lt_of_le h_.2 hNM.out) (e_.1.2))) (fun e_=>e_.elim (fun e_=>Nat.lt_irrefl _ (Nat.lt_of_lt_of_le (Nat.lt_of_lt_of_le h_.2 hNM.out) (e_.1.2))) (fun e_=>e_.elim (fun e_=>Nat.lt_irrefl _ (Nat.lt_of_lt_of_le (Nat.lt_of_lt_of_le h_.2 hNM.out) ((GO4 _ e_.symm).2))) (fun e_=>e_.elim (fun e_=>Nat.lt_irrefl _ (Nat.lt_of_lt_of_le (Nat.lt_of_lt_of_le h_.2 hNM.out) ((GO5 _ e_.symm).2))) (fun e_=>Nat.lt_irrefl _ (Nat.lt_of_lt_of_le (Nat.lt_of_lt_of_le h_.2 hNM.out) ((GO6 _ e_.symm).2)))))))))
 replace Hv5:=aM (Kd.R_kept Hv5.out hkp (fun k_ h_ e_=>e_.elim (fun e_=>Nat.lt_irrefl _ (Nat.lt_of_lt_of_le (Nat.lt_of_lt_of_le h_.2 hNM.out) ((GO0 _ e_.symm).2))) (fun e_=>e_.elim (fun e_=>Nat.lt_irrefl _ (Nat.lt_of_lt_of_le (Nat.lt_of_lt_of_le h_.2 hNM.out) (e_.1.2))) (fun e_=>e_.elim (fun e_=>Nat.lt_irrefl _ (Nat.lt_of_lt_of_le (Nat.lt_of_lt_of_le h_.2 hNM.out) (e_.1.2))) (fun e_=>e_.elim (fun e_=>Nat.lt_irrefl _ (Nat.lt_of_lt_of_le (Nat.lt_of_lt_of_le h_.2 hNM.out) ((GO4 _ e_.symm).2))) (fun e_=>e_.elim (fun e_=>Nat.lt_irrefl _ (Nat.lt_of_lt_of_le (Nat.lt_of_lt_of_le h_.2 hNM.out) ((GO5 _ e_.symm).2))) (fun e_=>Nat.lt_irrefl _ (Nat.lt_of_lt_of_le (Nat.lt_of_lt_of_le h_.2 hNM.out) ((GO6 _ e_.symm).2)))))))))
 replace Hv6:=aM (Kd.R_kept Hv6.out hkp (fun k_ h_ e_=>e_.elim (fun e_=>Nat.lt_irrefl _ (Nat.lt_of_lt_of_le (Nat.lt_of_lt_of_le h_.2 hNM.out) ((GO0 _ e_.symm).2))) (fun e_=>e_.elim (fun e_=>Nat.lt_irrefl _ (Nat.lt_of_lt_of_le (Nat.lt_of_lt_of_le h_.2 hNM.out) (e_.1.2))) (fun e_=>e_.elim (fun e_=>Nat.lt_irrefl _ (Nat.lt_of_lt_of_le (Nat.lt_of_lt_of_le h_.2 hNM.out) (e_.1.2))) (fun e_=>e_.elim (fun e_=>Nat.lt_irrefl _ (Nat.lt_of_lt_of_le (Nat.lt_of_lt_of_le h_.2 hNM.out) ((GO4 _ e_.symm).2))) (fun e_=>e_.elim (fun e_=>Nat.lt_irrefl _ (Nat.lt_of_lt_of_le (Nat.lt_of_lt_of_le h_.2 hNM.out) ((GO5 _ e_.symm).2))) (fun e_=>Nat.lt_irrefl _ (Nat.lt_of_lt_of_le (Nat.lt_of_lt_of_le h_.2 hNM.out) ((GO6 _ e_.symm).2)))))))))
 replace BK1:=aM (blk_kept BK1.out hkp (fun e_=>e_.elim (fun e_=>Nat.lt_irrefl _ (Nat.lt_of_lt_of_le (L1M.out) ((GO0 _ e_.symm).2))) (fun e_=>e_.elim (fun e_=>Nat.lt_irrefl _ (Nat.lt_of_lt_of_le (L1M.out) (e_.1.2))) (fun e_=>e_.elim (fun e_=>Nat.lt_irrefl _ (Nat.lt_of_lt_of_le (L1M.out) (e_.1.2))) (fun e_=>e_.elim (fun e_=>Nat.lt_irrefl _ (Nat.lt_of_lt_of_le (L1M.out) ((GO4 _ e_.symm).2))) (fun e_=>e_.elim (fun e_=>Nat.lt_irrefl _ (Nat.lt_of_lt_of_le (L1M.out) ((GO5 _ e_.symm).2))) (fun e_=>Nat.lt_irrefl _ (Nat.lt_of_lt_of_le (L1M.out) ((GO6 _ e_.symm).2)))))))))
 replace BK2:=aM (blk_kept BK2.out hkp (fun e_=>e_.elim (fun e_=>Nat.lt_irrefl _ (Nat.lt_of_lt_of_le (L2M.out) ((GO0 _ e_.symm).2))) (fun e_=>e_.elim (fun e_=>Nat.lt_irrefl _ (Nat.lt_of_lt_of_le (L2M.out) (e_.1.2))) (fun e_=>e_.elim (fun e_=>Nat.lt_irrefl _ (Nat.lt_of_lt_of_le (L2M.out) (e_.1.2))) (fun e_=>e_.elim (fun e_=>Nat.lt_irrefl _ (Nat.lt_of_lt_of_le (L2M.out) ((GO4 _ e_.symm).2))) (fun e_=>e_.elim (fun e_=>Nat.lt_irrefl _ (Nat.lt_of_lt_of_le (L2M.out) ((GO5 _ e_.symm).2))) (fun e_=>Nat.lt_irrefl _ (Nat.lt_of_lt_of_le (L2M.out) ((GO6 _ e_.symm).2)))))))))
 replace BK3:=aM (blk_kept BK3.out hkp (fun e_=>e_.elim (fun e_=>Nat.lt_irrefl _ (Nat.lt_of_lt_of_le (L3M.out) ((GO0 _ e_.symm).2))) (fun e_=>e_.elim (fun e_=>Nat.lt_irrefl _ (Nat.lt_of_lt_of_le (L3M.out) (e_.1.2))) (fun e_=>e_.elim (fun e_=>Nat.lt_irrefl _ (Nat.lt_of_lt_of_le (L3M.out) (e_.1.2))) (fun e_=>e_.elim (fun e_=>Nat.lt_irrefl _ (Nat.lt_of_lt_of_le (L3M.out) ((GO4 _ e_.symm).2))) (fun e_=>e_.elim (fun e_=>Nat.lt_irrefl _ (Nat.lt_of_lt_of_le (L3M.out) ((GO5 _ e_.symm).2))) (fun e_=>Nat.lt_irrefl _ (Nat.lt_of_lt_of_le (L3M.out) ((GO6 _ e_.symm).2)))))))))
 replace BK4:=aM (blk_kept BK4.out hkp (fun e_=>e_.elim (fun e_=>Kd.R_ne Hg0.out BK4.out (by decide) e_) (fun e_=>e_.elim (fun e_=>Deep.Ty_blk BK4.out e_.2 (by decide)) (fun e_=>e_.elim (fun e_=>Deep.Ty_blk BK4.out e_.2 (by decide)) (fun e_=>e_.elim (fun e_=>Deep.Ty_blk BK4.out (Deep.own_ty (Kd.S_R Hg4.out) _ e_.symm) (by decide)) (fun e_=>e_.elim (fun e_=>Kd.R_ne Hg5.out BK4.out (by decide) e_) (fun e_=>Kd.R_ne Hg6.out BK4.out (by decide) e_)))))))
 replace Hg0:=aM hz0
 replace Hg1:=aM hz1
 replace Hg2:=aM hz2
 replace Hg4:=aM hz4
 replace Hg5:=aM hz5
 replace Hg6:=aM hz6
 have ZL0:=aM ((Kd.R_reads' hz0).1)
 have ZL1:=aM ((Kd.S_reads' hz1).1)
 have ZL2:=aM ((Kd.S_reads' hz2).1)
 have ZL4:=aM ((Kd.S_reads' hz4).1)
 have ZL5:=aM ((Kd.R_reads' hz5).1)
 have ZL6:=aM ((Kd.R_reads' hz6).1)
 replace HB:=aM hb
 clear hb hkp GO0 GO4 GO5 GO6 hz0 hz1 hz2 hz4 hz5 hz6
 have hczl:=cZ8 BK4.out
 go_wp2_with (first | ((with_reducible refine gate_callee (f:=28) rfl ?_);have hh:=Xan.calls k _ _ z0 _ _ z1 _ _ z2 g3 _ _ z4 _ _ z5 _ _ z6 g7 1 q _ (rw2 (Kd.R_reads' Hg0.out).2.2 (ZL0.out ▸ (Kd.R_reads' Hg0.out).2.1)) (rw2 (Kd.S_reads' Hg1.out).2.2 (ZL1.out ▸ (Kd.S_reads' Hg1.out).2.1)) (rw2 (Kd.S_reads' Hg2.out).2.2 (ZL2.out ▸ (Kd.S_reads' Hg2.out).2.1)) (rw2 (Kd.S_reads' Hg4.out).2.2 (ZL4.out ▸ (Kd.S_reads' Hg4.out).2.1)) (rw2 (Kd.R_reads' Hg5.out).2.2 (ZL5.out ▸ (Kd.R_reads' Hg5.out).2.1)) (rw2 (Kd.R_reads' Hg6.out).2.2 (ZL6.out ▸ (Kd.R_reads' Hg6.out).2.1)) E18.out;rw[← ZL0.out,← ZL1.out,← ZL2.out,← ZL4.out,← ZL5.out,← ZL6.out] at hh;refine gB 28 88 Tryz.func28 hh ?_;clear hh;intro w23 hb;replace Hv0:=aQ Hv0 hb;replace Hv1:=aT Hv1 hb;replace Hv2:=aT Hv2 hb;replace Hv4:=aT Hv4 hb;replace Hv5:=aQ Hv5 hb;replace Hv6:=aQ Hv6 hb;replace Hg0:=aQ Hg0 hb;replace Hg1:=aT Hg1 hb;replace Hg2:=aT Hg2 hb;replace Hg4:=aT Hg4 hb;replace Hg5:=aQ Hg5 hb;replace Hg6:=aQ Hg6 hb;replace BK4:=aB BK4 hb;replace BK3:=aB BK3 hb;replace BK2:=aB BK2 hb;replace BK1:=aB BK1 hb;replace HB:=aS HB hb;clear hb;have hczm:=cZ2 BK1.out) | ((with_reducible refine gate_callee (f:=20) rfl ?_);refine goesM 20 96 Tryz.func20 #[.agg #[.slice A0_0 l0_0.length c0_0,.int .i64 a0_1]] ?_;refine(Xao.calls k _ _ l0_0 a0_1 r0 r1 _ (rW HR0_0 HB HC0_0) E19.out).mono ?_;rintro e w24 ⟨vr0,rfl,hr0,hb⟩;refine⟨_,rfl,?_⟩;have HR0:=aM hr0;replace Hv0:=aQ Hv0 hb;replace Hv1:=aT Hv1 hb;replace Hv2:=aT Hv2 hb;replace Hv4:=aT Hv4 hb;replace Hv5:=aQ Hv5 hb;replace Hv6:=aQ Hv6 hb;replace Hg0:=aQ Hg0 hb;replace Hg1:=aT Hg1 hb;replace Hg2:=aT Hg2 hb;replace Hg4:=aT Hg4 hb;replace Hg5:=aQ Hg5 hb;replace Hg6:=aQ Hg6 hb;replace BK4:=aB BK4 hb;replace BK3:=aB BK3 hb;replace BK2:=aB BK2 hb;replace BK1:=aB BK1 hb;replace HB:=aS HB hb;clear hb hr0;obtain⟨Ar0,cr0,es_⟩:=Kd.R_slice HR0.out;subst es_) | ((with_reducible refine gate_callee (f:=21) rfl ?_);refine goesM 21 98 Tryz.func21 #[.slice A1 l1.length c1] ?_;refine(XJ.calls k _ _ l1 rl _ (rW HR1 HB HC1) E20.out).mono ?_;rintro e w25 ⟨vrl,rfl,hrl,hb⟩;refine⟨_,rfl,?_⟩;have HRL:=aM hrl;replace Hv0:=aQ Hv0 hb;replace Hv1:=aT Hv1 hb;replace Hv2:=aT Hv2 hb;replace Hv4:=aT Hv4 hb;replace Hv5:=aQ Hv5 hb;replace Hv6:=aQ Hv6 hb;replace Hg0:=aQ Hg0 hb;replace Hg1:=aT Hg1 hb;replace Hg2:=aT Hg2 hb;replace Hg4:=aT Hg4 hb;replace Hg5:=aQ Hg5 hb;replace Hg6:=aQ Hg6 hb;replace HR0:=aQ HR0 hb;replace BK4:=aB BK4 hb;replace BK3:=aB BK3 hb;replace BK2:=aB BK2 hb;replace BK1:=aB BK1 hb;replace HB:=aS HB hb;clear hb hrl;obtain⟨Arl,crl,es_⟩:=Kd.S_slice HRL.out;subst es_) | ((with_reducible refine gate_callee (f:=22) rfl ?_);refine goesM 22 99 Tryz.func22 #[.agg #[.slice Ar0 r0.length cr0,.int .i64 r1],.slice Arl rl.length crl] ?_;refine(Xl.calls k _ _ r0 r1 _ _ rl h0 h1 h2 h3 h4 h5 h6 h7 gb _ (rw2 (rD HR0.out) (rL HR0.out)) (rw2 (sD HRL.out) (sL HRL.out)) E21.out).mono ?_;rintro e w26 ⟨vh0,vh1,vh2,vh4,vh5,vh6,rfl,hh0,hh1,hh2,hh4,hh5,hh6,hb⟩;refine⟨_,rfl,?_⟩;have Hh0:=aM hh0;have Hh1:=aM hh1;have Hh2:=aM hh2;have Hh4:=aM hh4;have Hh5:=aM hh5;have Hh6:=aM hh6;replace Hv0:=aQ Hv0 hb;replace Hv1:=aT Hv1 hb;replace Hv2:=aT Hv2 hb;replace Hv4:=aT Hv4 hb;replace Hv5:=aQ Hv5 hb;replace Hv6:=aQ Hv6 hb;replace Hg0:=aQ Hg0 hb;replace Hg1:=aT Hg1 hb;replace Hg2:=aT Hg2 hb;replace Hg4:=aT Hg4 hb;replace Hg5:=aQ Hg5 hb;replace Hg6:=aQ Hg6 hb;replace BK4:=aB BK4 hb;replace BK3:=aB BK3 hb;replace BK2:=aB BK2 hb;replace BK1:=aB BK1 hb;replace HB:=aS HB hb;clear hb HR0 HRL hh0 hh1 hh2 hh4 hh5 hh6) | ((with_reducible refine gate_dst (N:=15) rfl ?_);refine boxE 15 #[.slice none 0 0,.slice none 0 0,.slice none 0 0,.int .i64 0,.slice none 0 0,.slice none 0 0,.slice none 0 0,.int .i64 0] 43 ?_;intro bb5 hg w27 hbox hb;have BK5:=aM (hbox);have GE5:=aG hg HB;have NA45:=aL hg BK4;have NB45:=aR hg BK4;have na45:=NA45.out;have nb45:=NB45.out;have NA35:=aL hg BK3;have NB35:=aR hg BK3;have na35:=NA35.out;have nb35:=NB35.out;have NA25:=aL hg BK2;have NB25:=aR hg BK2;have na25:=NA25.out;have nb25:=NB25.out;have NA15:=aL hg BK1;have NB15:=aR hg BK1;have na15:=NA15.out;have nb15:=NB15.out;replace Hv0:=aQ Hv0 hb;replace Hv1:=aT Hv1 hb;replace Hv2:=aT Hv2 hb;replace Hv4:=aT Hv4 hb;replace Hv5:=aQ Hv5 hb;replace Hv6:=aQ Hv6 hb;replace Hg0:=aQ Hg0 hb;replace Hg1:=aT Hg1 hb;replace Hg2:=aT Hg2 hb;replace Hg4:=aT Hg4 hb;replace Hg5:=aQ Hg5 hb;replace Hg6:=aQ Hg6 hb;replace Hh0:=aQ Hh0 hb;replace Hh1:=aT Hh1 hb;replace Hh2:=aT Hh2 hb;replace Hh4:=aT Hh4 hb;replace Hh5:=aQ Hh5 hb;replace Hh6:=aQ Hh6 hb;replace BK4:=aB BK4 hb;replace BK3:=aB BK3 hb;replace BK2:=aB BK2 hb;replace BK1:=aB BK1 hb;replace HB:=aS HB hb;clear hb hbox hg;obtain⟨Ah0,ch0,es_⟩:=Kd.R_slice Hh0.out;subst es_;obtain⟨Ah1,ch1,es_⟩:=Kd.S_slice Hh1.out;subst es_;obtain⟨Ah2,ch2,es_⟩:=Kd.S_slice Hh2.out;subst es_;obtain⟨Ah4,ch4,es_⟩:=Kd.S_slice Hh4.out;subst es_;obtain⟨Ah5,ch5,es_⟩:=Kd.R_slice Hh5.out;subst es_;obtain⟨Ah6,ch6,es_⟩:=Kd.R_slice Hh6.out;subst es_;have hczn:=cZ8 BK5.out;have hczo:=cZ8 BK2.out) | ((with_reducible refine gate_callee (f:=14) rfl ?_);refine gB 14 104 Tryz.func14 (Xal.calls k _ _ h0 _ _ h1 _ _ h2 h3 _ _ h4 _ _ h5 _ _ h6 h7 _ _ v0 _ _ v1 _ _ v2 v3 _ _ v4 _ _ v5 _ _ v6 v7 true _ (rw2 (rR Hh0.out BK5.out) (rL Hh0.out)) (rw2 (sR Hh1.out BK5.out) (sL Hh1.out)) (rw2 (sR Hh2.out BK5.out) (sL Hh2.out)) (rw2 (sR Hh4.out BK5.out) (sL Hh4.out)) (rw2 (rR Hh5.out BK5.out) (rL Hh5.out)) (rw2 (rR Hh6.out BK5.out) (rL Hh6.out)) (rw2 (rR Hv0.out BK5.out) (rL Hv0.out)) (rw2 (sR Hv1.out BK5.out) (sL Hv1.out)) (rw2 (sR Hv2.out BK5.out) (sL Hv2.out)) (rw2 (sR Hv4.out BK5.out) (sL Hv4.out)) (rw2 (rR Hv5.out BK5.out) (rL Hv5.out)) (rw2 (rR Hv6.out BK5.out) (rL Hv6.out)) E22.out) ?_;intro w28 hb;replace Hv0:=aM (Kd.R_below (rF Hv0.out BK5.out) hb);replace Hv1:=aM (Kd.S_below (sF Hv1.out BK5.out) hb);replace Hv2:=aM (Kd.S_below (sF Hv2.out BK5.out) hb);replace Hv4:=aM (Kd.S_below (sF Hv4.out BK5.out) hb);replace Hv5:=aM (Kd.R_below (rF Hv5.out BK5.out) hb);replace Hv6:=aM (Kd.R_below (rF Hv6.out BK5.out) hb);replace Hg0:=aM (Kd.R_below (rF Hg0.out BK5.out) hb);replace Hg1:=aM (Kd.S_below (sF Hg1.out BK5.out) hb);replace Hg2:=aM (Kd.S_below (sF Hg2.out BK5.out) hb);replace Hg4:=aM (Kd.S_below (sF Hg4.out BK5.out) hb);replace Hg5:=aM (Kd.R_below (rF Hg5.out BK5.out) hb);replace Hg6:=aM (Kd.R_below (rF Hg6.out BK5.out) hb);replace Hh0:=aM (Kd.R_below (rF Hh0.out BK5.out) hb);replace Hh1:=aM (Kd.S_below (sF Hh1.out BK5.out) hb);replace Hh2:=aM (Kd.S_below (sF Hh2.out BK5.out) hb);replace Hh4:=aM (Kd.S_below (sF Hh4.out BK5.out) hb);replace Hh5:=aM (Kd.R_below (rF Hh5.out BK5.out) hb);replace Hh6:=aM (Kd.R_below (rF Hh6.out BK5.out) hb);replace BK5:=aM (blk_below (g:=bb5) (o:=.cells #[.slice Ah0 h0.length ch0,.slice Ah1 h1.length ch1,.slice Ah2 h2.length ch2,.int .i64 h3,.slice Ah4 h4.length ch4,.slice Ah5 h5.length ch5,.slice Ah6 h6.length ch6,.int .i64 h7] 43 (0,0)) (bP BK5.out) hb);replace BK4:=aF BK4 hb;replace BK3:=aF BK3 hb;replace BK2:=aF BK2 hb;replace BK1:=aF BK1 hb;replace HB:=aS HB hb;clear hb;have hczp:=cZ8 BK4.out) | ((with_reducible refine gate_callee (f:=28) rfl ?_);have hh:=Xan.calls k _ _ z0 _ _ z1 _ _ z2 g3 _ _ z4 _ _ z5 _ _ z6 g7 1 q2 _ (rw2 (Kd.R_reads' Hg0.out).2.2 (ZL0.out ▸ (Kd.R_reads' Hg0.out).2.1)) (rw2 (Kd.S_reads' Hg1.out).2.2 (ZL1.out ▸ (Kd.S_reads' Hg1.out).2.1)) (rw2 (Kd.S_reads' Hg2.out).2.2 (ZL2.out ▸ (Kd.S_reads' Hg2.out).2.1)) (rw2 (Kd.S_reads' Hg4.out).2.2 (ZL4.out ▸ (Kd.S_reads' Hg4.out).2.1)) (rw2 (Kd.R_reads' Hg5.out).2.2 (ZL5.out ▸ (Kd.R_reads' Hg5.out).2.1)) (rw2 (Kd.R_reads' Hg6.out).2.2 (ZL6.out ▸ (Kd.R_reads' Hg6.out).2.1)) E23.out;rw[← ZL0.out,← ZL1.out,← ZL2.out,← ZL4.out,← ZL5.out,← ZL6.out] at hh;refine gB 28 113 Tryz.func28 hh ?_;clear hh;intro w29 hb;replace HB:=aS HB hb;clear hb))
 go_ret
 exact⟨rE,(hX HB.out)⟩
end Go.Proofs.YtmljebgideecjaaGreat.P2
