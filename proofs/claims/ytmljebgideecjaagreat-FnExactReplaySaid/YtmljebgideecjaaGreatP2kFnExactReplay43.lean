/- A part of the proof of the law FnExactReplay: texts of this seat, merged (words, printed functions of the program, plain lemmas). Conditions: none of its own. -/
import Derived.Test.YtmljebgideecjaaGreatP2kFnExactReplay42
set_option linter.unusedSimpArgs false
set_option linter.unusedVariables false
set_option maxHeartbeats 8000000
set_option maxRecDepth 100000
namespace Go.Proofs.YtmljebgideecjaaGreat.P2
open Go.Proofs.YtmljebgideecjaaGreatZ Go.RowKit Go.Proofs.YtmljebgideecjaaGreatW.PrintWords Go.Proofs.YtmljebgideecjaaGreatW.PrintLast Go.Proofs.YtmljebgideecjaaGreatW.PrintMore
attribute [local go_sem] max2_int min2_int max_two min_two max_three min_three max_four min_four   -- for this text's walks alone
mutual
def Xk.j0:Nat→Bool→Bool→Bool→List (S176)→List (S155)→List (S114)→Int→List (S119)→List Int→List Int→Int→List Int→Int→List (S140)→List (S162)→List (S97)→Int→List (S73)→List Int→List Int→Int→List Int→Int→Option (Bool)
 | 0,_,_,_,_,_,_,_,_,_,_,_,_,_,_,_,_,_,_,_,_,_,_,_=>none
 | k+1,x5,x8,x40,x102000,x102001,x102002,x102003,x102004,x102005,x102006,x102007,x129000,x129001,x150000,x150001,x150002,x150003,x150004,x150005,x150006,x150007,x156000,x156001=>if x40=true then (some false) else ((XU.f k x102000 x102001 x102002 x102003 x102004 x102005 x102006 x102007).bind fun bt157=>((XaJ.f k x150000 x150001 x150002 x150003 x150004 x150005 x150006 x150007 bt157.1 bt157.2.1 bt157.2.2.1 bt157.2.2.2.1 bt157.2.2.2.2.1 bt157.2.2.2.2.2.1 bt157.2.2.2.2.2.2.1 bt157.2.2.2.2.2.2.2).bind fun t177=>(if t177=true then ((Xat.f k x150000 x150001 x150002 x150003 x150004 x150005 x150006 x150007 1).bind fun t178=>(if t178<0 then (Xk.j1 k x5 true x102000 x102001 x102002 x102003 x102004 x102005 x102006 x102007 x129000 x129001 x156000 x156001) else ((Xaf.f k x156000 x156001 x129000 x129001).bind fun t179=>(if t179=true then (Xk.j1 k x5 (x8 != x5) x102000 x102001 x102002 x102003 x102004 x102005 x102006 x102007 x129000 x129001 x156000 x156001) else (Xk.j1 k x5 true x102000 x102001 x102002 x102003 x102004 x102005 x102006 x102007 x129000 x129001 x156000 x156001))))) else (some false))))
def Xk.j1:Nat→Bool→Bool→List (S176)→List (S155)→List (S114)→Int→List (S119)→List Int→List Int→Int→List Int→Int→List Int→Int→Option (Bool)
 | 0,_,_,_,_,_,_,_,_,_,_,_,_,_,_=>none
 | k+1,x5,x61,x102000,x102001,x102002,x102003,x102004,x102005,x102006,x102007,x129000,x129001,x156000,x156001=>if x61=true then (some false) else ((XaG.f k x156000 x156001 1).bind fun bt180=>((XaH.f k bt180.2 x156001 1).bind fun t182=>(if t182<0 then (some false) else (if t182=bt180.1 then ((XU.f k x102000 x102001 x102002 x102003 x102004 x102005 x102006 x102007).bind fun bt183=>((X3.f k bt183.1 bt183.2.1 bt183.2.2.1 bt183.2.2.2.1 bt183.2.2.2.2.1 bt183.2.2.2.2.2.1 bt183.2.2.2.2.2.2.1 bt183.2.2.2.2.2.2.2).bind fun bt203=>((Xaf.f k bt203.1 bt203.2.1 x129000 x129001).bind fun t209=>(if t209=true then (Xk.j2 k bt180.1 (bt203.2.2 != x5) bt180.2 x156001) else (Xk.j2 k bt180.1 true bt180.2 x156001))))) else (some false)))))
def Xk.j2:Nat→Int→Bool→List Int→Int→Option (Bool)
 | 0,_,_,_,_=>none
 | k+1,x10,x87,x156000,x156001=>if x87=true then (some false) else ((XaH.f k x156000 x156001 1).bind fun t210=>(if t210<0 then (some false) else (if t210=x10 then (some true) else (some false))))
end
def Xk.f (k:Nat) (l0_0:List (S176)) (l0_1:List (S155)) (l0_2:List (S114)) (a0_3:Int) (l0_4:List (S119)) (l0_5:List Int) (l0_6:List Int) (a0_7:Int):Option (Bool):=(XaI.f k l0_0 l0_1 l0_2 a0_3 l0_4 l0_5 l0_6 a0_7 1048576).bind fun t102=>(if t102<0 then (some true) else ((XU.f k l0_0 l0_1 l0_2 a0_3 l0_4 l0_5 l0_6 a0_7).bind fun bt103=>((Xu.f k bt103.1 bt103.2.1 bt103.2.2.1 bt103.2.2.2.1 bt103.2.2.2.2.1 bt103.2.2.2.2.2.1 bt103.2.2.2.2.2.2.1 bt103.2.2.2.2.2.2.2).bind fun bt123=>((XU.f k l0_0 l0_1 l0_2 a0_3 l0_4 l0_5 l0_6 a0_7).bind fun bt129=>((X3.f k bt129.1 bt129.2.1 bt129.2.2.1 bt129.2.2.2.1 bt129.2.2.2.2.1 bt129.2.2.2.2.2.1 bt129.2.2.2.2.2.2.1 bt129.2.2.2.2.2.2.2).bind fun bt150=>((Xaf.f k bt150.1 bt150.2.1 bt123.1 bt123.2.1).bind fun t156=>(if t156=true then (Xk.j0 k bt123.2.2 bt150.2.2 (bt150.2.2 != bt123.2.2) l0_0 l0_1 l0_2 a0_3 l0_4 l0_5 l0_6 a0_7 bt123.1 bt123.2.1 bt129.1 bt129.2.1 bt129.2.2.1 bt129.2.2.2.1 bt129.2.2.2.2.1 bt129.2.2.2.2.2.1 bt129.2.2.2.2.2.2.1 bt129.2.2.2.2.2.2.2 bt150.1 bt150.2.1) else (Xk.j0 k bt123.2.2 bt150.2.2 true l0_0 l0_1 l0_2 a0_3 l0_4 l0_5 l0_6 a0_7 bt123.1 bt123.2.1 bt129.1 bt129.2.1 bt129.2.2.1 bt129.2.2.2.1 bt129.2.2.2.2.1 bt129.2.2.2.2.2.1 bt129.2.2.2.2.2.2.1 bt129.2.2.2.2.2.2.2 bt150.1 bt150.2.1))))))))
theorem Xk.calls (k:Nat) (A0_0:Option Addr) (c0_0:Nat) (l0_0:List (S176)) (A0_1:Option Addr) (c0_1:Nat) (l0_1:List (S155)) (A0_2:Option Addr) (c0_2:Nat) (l0_2:List (S114)) (a0_3:Int) (A0_4:Option Addr) (c0_4:Nat) (l0_4:List (S119)) (A0_5:Option Addr) (c0_5:Nat) (l0_5:List Int) (A0_6:Option Addr) (c0_6:Nat) (l0_6:List Int) (a0_7:Int) (r:Bool) (w:World) (hr0_0:Kd.C k176 w A0_0 l0_0.length l0_0) (hc0_0:l0_0.length≤c0_0) (hr0_1:Kd.C k155 w A0_1 l0_1.length l0_1) (hc0_1:l0_1.length≤c0_1) (hr0_2:Kd.C k114 w A0_2 l0_2.length l0_2) (hc0_2:l0_2.length≤c0_2) (hr0_4:Kd.C k119 w A0_4 l0_4.length l0_4) (hc0_4:l0_4.length≤c0_4) (hr0_5:Kd.C (Kd.int .i64) w A0_5 l0_5.length l0_5) (hc0_5:l0_5.length≤c0_5) (hr0_6:Kd.C (Kd.int .i64) w A0_6 l0_6.length l0_6) (hc0_6:l0_6.length≤c0_6) (h:Xk.f k l0_0 l0_1 l0_2 a0_3 l0_4 l0_5 l0_6 a0_7=some r) :
  Calls Tryz.prog 6 #[.agg #[.slice A0_0 l0_0.length c0_0,.slice A0_1 l0_1.length c0_1,.slice A0_2 l0_2.length c0_2,.int .i64 a0_3,.slice A0_4 l0_4.length c0_4,.slice A0_5 l0_5.length c0_5,.slice A0_6 l0_6.length c0_6,.int .i64 a0_7]] w fun e w'=>e = .returned (.bool r)∧Below w.heap.size w w':=by
 have hu32:=Tryz.underlying32
 have hu41:=Tryz.underlying41
 have hu43:=Tryz.underlying43
 have HR0_0:=aM hr0_0
 have HC0_0:=aM hc0_0
 clear hr0_0 hc0_0
 have HR0_1:=aM hr0_1
 have HC0_1:=aM hc0_1
 clear hr0_1 hc0_1
 have HR0_2:=aM hr0_2
 have HC0_2:=aM hc0_2
 clear hr0_2 hc0_2
 have HR0_4:=aM hr0_4
 have HC0_4:=aM hc0_4
 clear hr0_4 hc0_4
 have HR0_5:=aM hr0_5
 have HC0_5:=aM hc0_5
 clear hr0_5 hc0_5
 have HR0_6:=aM hr0_6
 have HC0_6:=aM hc0_6
 clear hr0_6 hc0_6
 have HB:=aM (Below.refl w.heap.size w)
 have H:=h
 unfold Xk.f at H
 clear h
 replace H:=bE H;obtain⟨t102,A2,H⟩:=H
 go_enter Tryz.func6,Tryz.ntmps6
 revert H;refine iP ?_ ?_<;>intro c3b0 H
 ·obtain rfl:=sI H
  go_wp2_with (first | (refine boxE 1 #[.slice A0_0 l0_0.length c0_0,.slice A0_1 l0_1.length c0_1,.slice A0_2 l0_2.length c0_2,.int .i64 a0_3,.slice A0_4 l0_4.length c0_4,.slice A0_5 l0_5.length c0_5,.slice A0_6 l0_6.length c0_6,.int .i64 a0_7] 32 ?_;intro gbz1 hg wz1 hbox hb;have BKz1:=aM (hbox);have GWz1:=aG hg HB;have GEz1:=aG hg HB;replace HB:=aS HB hb;clear hb hbox hg;have hczz1:=cZ8 BKz1.out) | ((with_reducible refine gate_callee (f:=10) rfl ?_);refine gB 10 16 Tryz.func10 (XaI.calls _ _ _ _ _ _ _ _ _ _ _ _ _ _ _ _ _ _ _ _ _ _ _ _ (rW HR0_0 HB HC0_0) (rW HR0_1 HB HC0_1) (rW HR0_2 HB HC0_2) (rW HR0_4 HB HC0_4) (rW HR0_5 HB HC0_5) (rW HR0_6 HB HC0_6) A2.out) ?_;intro wz2 hb;replace BKz1:=aB BKz1 hb;replace HB:=aS HB hb;clear hb))
  go_ret
  exact⟨rE,(hX HB.out)⟩
 replace H:=bE H;obtain⟨⟨t103,t106,t109,t112,t113,t116,t119,t122⟩,A7,H⟩:=H
 try dsimp only at H
 replace H:=bE H;obtain⟨⟨t123,t126,t127⟩,A8,H⟩:=H
 try dsimp only at H
 replace H:=bE H;obtain⟨⟨t129,t132,t135,t138,t139,t142,t145,t148⟩,A9,H⟩:=H
 try dsimp only at H
 replace H:=bE H;obtain⟨⟨t150,t153,t154⟩,A10,H⟩:=H
 try dsimp only at H
 have HC11:=aM H
 clear H
 go_upto_region 8 with(first | ((with_reducible refine gate_dst (N:=1) rfl ?_);refine boxE 1 #[.slice A0_0 l0_0.length c0_0,.slice A0_1 l0_1.length c0_1,.slice A0_2 l0_2.length c0_2,.int .i64 a0_3,.slice A0_4 l0_4.length c0_4,.slice A0_5 l0_5.length c0_5,.slice A0_6 l0_6.length c0_6,.int .i64 a0_7] 32 ?_;intro gbz1 hg wz1 hbox hb;have BKz1:=aM (hbox);have GWz1:=aG hg HB;have GEz1:=aG hg HB;replace HB:=aS HB hb;clear hb hbox hg;have hczz1:=cZ8 BKz1.out) | ((with_reducible refine gate_callee (f:=10) rfl ?_);refine gB 10 16 Tryz.func10 (XaI.calls _ _ _ _ _ _ _ _ _ _ _ _ _ _ _ _ _ _ _ _ _ _ _ _ (rW HR0_0 HB HC0_0) (rW HR0_1 HB HC0_1) (rW HR0_2 HB HC0_2) (rW HR0_4 HB HC0_4) (rW HR0_5 HB HC0_5) (rW HR0_6 HB HC0_6) A2.out) ?_;intro wz2 hb;replace BKz1:=aB BKz1 hb;replace HB:=aS HB hb;clear hb;have hczz9:=cZ8 BKz1.out) | ((with_reducible refine gate_callee (f:=12) rfl ?_);refine goesM 12 21 Tryz.func12 #[.agg #[.slice A0_0 l0_0.length c0_0,.slice A0_1 l0_1.length c0_1,.slice A0_2 l0_2.length c0_2,.int .i64 a0_3,.slice A0_4 l0_4.length c0_4,.slice A0_5 l0_5.length c0_5,.slice A0_6 l0_6.length c0_6,.int .i64 a0_7]] ?_;refine(XU.calls _ _ _ _ _ _ _ _ _ _ _ _ _ _ _ _ _ _ _ _ _ _ _ _ _ _ _ _ _ _ (rW HR0_0 HB HC0_0) (rW HR0_1 HB HC0_1) (rW HR0_2 HB HC0_2) (rW HR0_4 HB HC0_4) (rW HR0_5 HB HC0_5) (rW HR0_6 HB HC0_6) A7.out).mono ?_;rintro e wz3 ⟨vz1,vz2,vz3,vz4,vz5,vz6,rfl,hoz1,hoz2,hoz3,hoz4,hoz5,hoz6,hb⟩;refine⟨_,rfl,?_⟩;have HOz1:=aM (Kd.R_lower hoz1 (below_size (hX HB.out)));have HOz2:=aM (Kd.S_lower hoz2 (below_size (hX HB.out)));have HOz3:=aM (Kd.S_lower hoz3 (below_size (hX HB.out)));have HOz4:=aM (Kd.S_lower hoz4 (below_size (hX HB.out)));have HOz5:=aM (Kd.R_lower hoz5 (below_size (hX HB.out)));have HOz6:=aM (Kd.R_lower hoz6 (below_size (hX HB.out)));replace BKz1:=aB BKz1 hb;replace HB:=aS HB hb;clear hb hoz1 hoz2 hoz3 hoz4 hoz5 hoz6;obtain⟨Aoz1,coz1,eoz1⟩:=Kd.R_slice HOz1.out;subst eoz1;obtain⟨Aoz2,coz2,eoz2⟩:=Kd.S_slice HOz2.out;subst eoz2;obtain⟨Aoz3,coz3,eoz3⟩:=Kd.S_slice HOz3.out;subst eoz3;obtain⟨Aoz4,coz4,eoz4⟩:=Kd.S_slice HOz4.out;subst eoz4;obtain⟨Aoz5,coz5,eoz5⟩:=Kd.R_slice HOz5.out;subst eoz5;obtain⟨Aoz6,coz6,eoz6⟩:=Kd.R_slice HOz6.out;subst eoz6) | ((with_reducible refine gate_callee (f:=29) rfl ?_);refine goesM 29 22 Tryz.func29 #[.agg #[.slice Aoz1 t103.length coz1,.slice Aoz2 t106.length coz2,.slice Aoz3 t109.length coz3,.int .i64 t112,.slice Aoz4 t113.length coz4,.slice Aoz5 t116.length coz5,.slice Aoz6 t119.length coz6,.int .i64 t122]] ?_;refine(Xu.calls _ _ _ _ _ _ _ _ _ _ _ _ _ _ _ _ _ _ _ _ _ _ _ _ _ (rw2 (cX (Kd.R_reads' HOz1.out).2.2) ((Kd.R_reads' HOz1.out).2.1)) (rw2 (cX (Kd.S_reads' HOz2.out).2.2) ((Kd.S_reads' HOz2.out).2.1)) (rw2 (cX (Kd.S_reads' HOz3.out).2.2) ((Kd.S_reads' HOz3.out).2.1)) (rw2 (cX (Kd.S_reads' HOz4.out).2.2) ((Kd.S_reads' HOz4.out).2.1)) (rw2 (cX (Kd.R_reads' HOz5.out).2.2) ((Kd.R_reads' HOz5.out).2.1)) (rw2 (cX (Kd.R_reads' HOz6.out).2.2) ((Kd.R_reads' HOz6.out).2.1)) A8.out).mono ?_;rintro e wz4 ⟨vz7,rfl,hoz1,hb⟩;refine⟨_,rfl,?_⟩;have HOz7:=aM (Kd.R_lower (Kd.R_new' (Kd.R_new' hoz1 (Kd.R_lt (rX HOz5.out))) (Kd.R_lt (rX HOz6.out))) (below_size (hX HB.out)));replace HOz1:=aQ HOz1 hb;replace HOz2:=aM (Kd.S_elder' (sX HOz2.out) (Kd.R_base hoz1) hb);replace HOz3:=aT HOz3 hb;replace HOz4:=aM (Kd.S_elder' (sX HOz4.out) (Kd.R_base hoz1) hb);replace HOz5:=aM (Kd.R_elder' (rX HOz5.out) (Kd.R_base hoz1) hb);replace HOz6:=aM (Kd.R_elder' (rX HOz6.out) (Kd.R_base hoz1) hb);replace BKz1:=aB BKz1 hb;replace HB:=aS HB hb;clear hb hoz1) | ((with_reducible refine gate_dst (N:=4) rfl ?_);refine boxE 4 #[.slice none 0 0,.int .i64 0] 41 ?_;intro gbz2 hg wz5 hbox hb;have BKz2:=aM (hbox);have GWz2:=aG hg HB;have GEz2:=aG hg HB;have NBz1:=aL hg BKz1;have NBz2:=aR hg BKz1;replace HOz1:=aQ HOz1 hb;replace HOz2:=aT HOz2 hb;replace HOz3:=aT HOz3 hb;replace HOz4:=aT HOz4 hb;replace HOz5:=aQ HOz5 hb;replace HOz6:=aQ HOz6 hb;replace HOz7:=aQ HOz7 hb;replace BKz1:=aB BKz1 hb;replace HB:=aS HB hb;clear hb hbox hg;obtain⟨Aoz7,coz7,eoz7⟩:=Kd.R_slice HOz7.out;subst eoz7;have hnbz1:=nB NBz2 NBz1;have hczz17:=cZ2 BKz2.out;have hczz19:=cZ8 BKz1.out) | ((with_reducible refine gate_callee (f:=12) rfl ?_);refine goesM 12 26 Tryz.func12 #[.agg #[.slice A0_0 l0_0.length c0_0,.slice A0_1 l0_1.length c0_1,.slice A0_2 l0_2.length c0_2,.int .i64 a0_3,.slice A0_4 l0_4.length c0_4,.slice A0_5 l0_5.length c0_5,.slice A0_6 l0_6.length c0_6,.int .i64 a0_7]] ?_;refine(XU.sep k _ _ l0_0 _ _ l0_1 _ _ l0_2 a0_3 _ _ l0_4 _ _ l0_5 _ _ l0_6 a0_7 t129 t132 t135 t138 t139 t142 t145 t148 _ (rW HR0_0 HB HC0_0) (rW HR0_1 HB HC0_1) (rW HR0_2 HB HC0_2) (rW HR0_4 HB HC0_4) (rW HR0_5 HB HC0_5) (rW HR0_6 HB HC0_6) A9.out).mono ?_;rintro e wz6 ⟨vz8,vz9,vz10,vz11,vz12,vz13,rfl,hoz1,hoz2,hoz3,hoz4,hoz5,hoz6,hb,htw⟩;refine⟨_,rfl,?_⟩;have HTW:=aM (two_lower2 (two_new2 htw (Kd.R_lt (rF HOz7.out BKz2.out))) (below_size (hX HB.out)));clear htw;have HOz8:=aM (Kd.R_lower (Kd.R_new' hoz1 (Kd.R_lt (rF HOz1.out BKz2.out))) (below_size (hX HB.out)));have HOz9:=aM (Kd.S_lower (Kd.S_new' (Kd.S_new' (Kd.S_new' (Kd.S_new' hoz2 (Kd.S_lt (sF HOz2.out BKz2.out))) (Kd.R_lt (rF HOz5.out BKz2.out))) (Kd.R_lt (rF HOz6.out BKz2.out))) (Kd.R_lt (rF HOz7.out BKz2.out))) (below_size (hX HB.out)));have HOz10:=aM (Kd.S_lower (Kd.S_new' hoz3 (Kd.S_lt (sF HOz3.out BKz2.out))) (below_size (hX HB.out)));have HOz11:=aM (Kd.S_lower (Kd.S_new' (Kd.S_new' (Kd.S_new' (Kd.S_new' hoz4 (Kd.S_lt (sF HOz4.out BKz2.out))) (Kd.R_lt (rF HOz5.out BKz2.out))) (Kd.R_lt (rF HOz6.out BKz2.out))) (Kd.R_lt (rF HOz7.out BKz2.out))) (below_size (hX HB.out)));have HOz12:=aM (Kd.R_lower (Kd.R_new' (Kd.R_new' (Kd.R_new' hoz5 (Kd.R_lt (rF HOz5.out BKz2.out))) (Kd.R_lt (rF HOz6.out BKz2.out))) (Kd.R_lt (rF HOz7.out BKz2.out))) (below_size (hX HB.out)));have HOz13:=aM (Kd.R_lower (Kd.R_new' (Kd.R_new' (Kd.R_new' hoz6 (Kd.R_lt (rF HOz5.out BKz2.out))) (Kd.R_lt (rF HOz6.out BKz2.out))) (Kd.R_lt (rF HOz7.out BKz2.out))) (below_size (hX HB.out)));replace HOz1:=aM (Kd.R_elder' (rF HOz1.out BKz2.out) (Kd.R_base hoz1) hb);replace HOz2:=aM (Kd.S_mono (Kd.S_told (Kd.S_told (Kd.S_told (Kd.S_old (sF HOz2.out BKz2.out) hb) (Kd.S_base hoz2)) (Kd.R_base hoz5)) (Kd.R_base hoz6)) (fun _ h_=>h_.1));replace HOz3:=aM (Kd.S_elder' (sF HOz3.out BKz2.out) (Kd.S_base hoz3) hb);replace HOz4:=aM (Kd.S_mono (Kd.S_told (Kd.S_told (Kd.S_told (Kd.S_old (sF HOz4.out BKz2.out) hb) (Kd.S_base hoz4)) (Kd.R_base hoz5)) (Kd.R_base hoz6)) (fun _ h_=>h_.1));replace HOz5:=aM (Kd.R_mono (Kd.R_told (Kd.R_told (Kd.R_old (rF HOz5.out BKz2.out) hb) (Kd.R_base hoz5)) (Kd.R_base hoz6)) (fun _ h_=>h_.1));replace HOz6:=aM (Kd.R_mono (Kd.R_told (Kd.R_told (Kd.R_old (rF HOz6.out BKz2.out) hb) (Kd.R_base hoz5)) (Kd.R_base hoz6)) (fun _ h_=>h_.1));replace HOz7:=aM (Kd.R_mono (Kd.R_told (Kd.R_told (Kd.R_old (rF HOz7.out BKz2.out) hb) (Kd.R_base hoz5)) (Kd.R_base hoz6)) (fun _ h_=>h_.1));replace BKz1:=aF BKz1 hb;replace BKz2:=aM (blk_below (g:=gbz2) (o:=.cells #[.slice Aoz7 t123.length coz7,.int .i64 t126] 41 (0,0)) (bP BKz2.out) hb);replace HB:=aS HB hb;clear hb hoz1 hoz2 hoz3 hoz4 hoz5 hoz6) | ((with_reducible refine gate_dst (N:=6) rfl ?_);refine boxE 6 #[.slice none 0 0,.slice none 0 0,.slice none 0 0,.int .i64 0,.slice none 0 0,.slice none 0 0,.slice none 0 0,.int .i64 0] 43 ?_;intro gbz3 hg wz7 hbox hb;replace HTW:=twT2 HTW hb;have BKz3:=aM (hbox);have GWz3:=aG hg HB;have GEz3:=aG hg HB;have NBz3:=aL hg BKz1;have NBz4:=aR hg BKz1;have NBz5:=aL hg BKz2;have NBz6:=aR hg BKz2;replace HOz1:=aQ HOz1 hb;replace HOz2:=aT HOz2 hb;replace HOz3:=aT HOz3 hb;replace HOz4:=aT HOz4 hb;replace HOz5:=aQ HOz5 hb;replace HOz6:=aQ HOz6 hb;replace HOz7:=aQ HOz7 hb;replace HOz8:=aQ HOz8 hb;replace HOz9:=aT HOz9 hb;replace HOz10:=aT HOz10 hb;replace HOz11:=aT HOz11 hb;replace HOz12:=aQ HOz12 hb;replace HOz13:=aQ HOz13 hb;replace BKz1:=aB BKz1 hb;replace BKz2:=aB BKz2 hb;replace HB:=aS HB hb;clear hb hbox hg;obtain⟨Aoz8,coz8,eoz8⟩:=Kd.R_slice HOz8.out;subst eoz8;have hnbz2:=nB NBz4 NBz3;have hnbz3:=nB NBz6 NBz5;have hczz27:=cZ8 BKz3.out;obtain⟨Aoz9,coz9,eoz9⟩:=Kd.S_slice HOz9.out;subst eoz9;obtain⟨Aoz10,coz10,eoz10⟩:=Kd.S_slice HOz10.out;subst eoz10;obtain⟨Aoz11,coz11,eoz11⟩:=Kd.S_slice HOz11.out;subst eoz11;obtain⟨Aoz12,coz12,eoz12⟩:=Kd.R_slice HOz12.out;subst eoz12;obtain⟨Aoz13,coz13,eoz13⟩:=Kd.R_slice HOz13.out;subst eoz13) | ((with_reducible refine gate_callee (f:=30) rfl ?_);refine goesM 30 29 Tryz.func30 #[.agg #[.slice Aoz8 t129.length coz8,.slice Aoz9 t132.length coz9,.slice Aoz10 t135.length coz10,.int .i64 t138,.slice Aoz11 t139.length coz11,.slice Aoz12 t142.length coz12,.slice Aoz13 t145.length coz13,.int .i64 t148]] ?_;refine(X3.calls _ _ _ _ _ _ _ _ _ _ _ _ _ _ _ _ _ _ _ _ _ _ _ _ _ (rw2 (rR HOz8.out BKz3.out) ((Kd.R_reads' HOz8.out).2.1)) (rw2 (sR HOz9.out BKz3.out) ((Kd.S_reads' HOz9.out).2.1)) (rw2 (sR HOz10.out BKz3.out) ((Kd.S_reads' HOz10.out).2.1)) (rw2 (sR HOz11.out BKz3.out) ((Kd.S_reads' HOz11.out).2.1)) (rw2 (rR HOz12.out BKz3.out) ((Kd.R_reads' HOz12.out).2.1)) (rw2 (rR HOz13.out BKz3.out) ((Kd.R_reads' HOz13.out).2.1)) A10.out).mono ?_;rintro e wz8 ⟨vz14,rfl,hoz1,hb⟩;refine⟨_,rfl,?_⟩;replace HTW:=aM (two_elder (twF HTW.out BKz3.out) (Kd.R_base hoz1) hb);have HOz14:=aM (Kd.R_lower (Kd.R_new' (Kd.R_new' (Kd.R_new' (Kd.R_new' (Kd.R_new' hoz1 (Kd.R_lt (rF HOz5.out BKz3.out))) (Kd.R_lt (rF HOz6.out BKz3.out))) (Kd.R_lt (rF HOz7.out BKz3.out))) (Kd.R_lt (rF HOz12.out BKz3.out))) (Kd.R_lt (rF HOz13.out BKz3.out))) (below_size (hX HB.out)));replace HOz1:=aM (Kd.R_below (rF HOz1.out BKz3.out) hb);replace HOz2:=aM (Kd.S_elder' (sF HOz2.out BKz3.out) (Kd.R_base hoz1) hb);replace HOz3:=aM (Kd.S_below (sF HOz3.out BKz3.out) hb);replace HOz4:=aM (Kd.S_elder' (sF HOz4.out BKz3.out) (Kd.R_base hoz1) hb);replace HOz5:=aM (Kd.R_elder' (rF HOz5.out BKz3.out) (Kd.R_base hoz1) hb);replace HOz6:=aM (Kd.R_elder' (rF HOz6.out BKz3.out) (Kd.R_base hoz1) hb);replace HOz7:=aM (Kd.R_elder' (rF HOz7.out BKz3.out) (Kd.R_base hoz1) hb);replace HOz8:=aM (Kd.R_below (rF HOz8.out BKz3.out) hb);replace HOz9:=aM (Kd.S_elder' (sF HOz9.out BKz3.out) (Kd.R_base hoz1) hb);replace HOz10:=aM (Kd.S_below (sF HOz10.out BKz3.out) hb);replace HOz11:=aM (Kd.S_elder' (sF HOz11.out BKz3.out) (Kd.R_base hoz1) hb);replace HOz12:=aM (Kd.R_elder' (rF HOz12.out BKz3.out) (Kd.R_base hoz1) hb);replace HOz13:=aM (Kd.R_elder' (rF HOz13.out BKz3.out) (Kd.R_base hoz1) hb);replace BKz1:=aF BKz1 hb;replace BKz2:=aF BKz2 hb;replace BKz3:=aM (blk_below (g:=gbz3) (o:=.cells #[.slice Aoz8 t129.length coz8,.slice Aoz9 t132.length coz9,.slice Aoz10 t135.length coz10,.int .i64 t138,.slice Aoz11 t139.length coz11,.slice Aoz12 t142.length coz12,.slice Aoz13 t145.length coz13,.int .i64 t148] 43 (0,0)) (bP BKz3.out) hb);replace HB:=aS HB hb;clear hb hoz1) | ((with_reducible refine gate_dst (N:=7) rfl ?_);refine boxE 7 #[.slice none 0 0,.int .i64 0] 41 ?_;intro gbz4 hg wz9 hbox hb;replace HTW:=twT2 HTW hb;have BKz4:=aM (hbox);have GWz4:=aG hg HB;have GEz4:=aG hg HB;have NBz7:=aL hg BKz1;have NBz8:=aR hg BKz1;have NBz9:=aL hg BKz2;have NBz10:=aR hg BKz2;have NBz11:=aL hg BKz3;have NBz12:=aR hg BKz3;replace HOz1:=aQ HOz1 hb;replace HOz2:=aT HOz2 hb;replace HOz3:=aT HOz3 hb;replace HOz4:=aT HOz4 hb;replace HOz5:=aQ HOz5 hb;replace HOz6:=aQ HOz6 hb;replace HOz7:=aQ HOz7 hb;replace HOz8:=aQ HOz8 hb;replace HOz9:=aT HOz9 hb;replace HOz10:=aT HOz10 hb;replace HOz11:=aT HOz11 hb;replace HOz12:=aQ HOz12 hb;replace HOz13:=aQ HOz13 hb;replace HOz14:=aQ HOz14 hb;replace BKz1:=aB BKz1 hb;replace BKz2:=aB BKz2 hb;replace BKz3:=aB BKz3 hb;replace HB:=aS HB hb;clear hb hbox hg;obtain⟨Aoz14,coz14,eoz14⟩:=Kd.R_slice HOz14.out;subst eoz14;have hnbz4:=nB NBz8 NBz7;have hnbz5:=nB NBz10 NBz9;have hnbz6:=nB NBz12 NBz11;have hczz35:=cZ2 BKz4.out))
 (try simp only[Act.put,List.setIfInBounds_toArray,List.set_cons_zero,List.set_cons_succ])
 go_cut [40] (fun vz15 wc=>∃ (kq:Nat) (x40_10:Bool),vz15 = .bool x40_10∧Aside0 (Xk.j0 kq t127 t154 x40_10 l0_0 l0_1 l0_2 a0_3 l0_4 l0_5 l0_6 a0_7 t123 t126 t129 t132 t135 t138 t139 t142 t145 t148 t150 t153=some r)∧Aside0 (kq≤k)∧Aside0 (Kd.R (Kd.int .i64) 3 wc w.heap.size (fun k_=>some k_ ≠ ((.slice Aoz12 t142.length coz12):Value).ownBlock∧some k_ ≠ ((.slice Aoz13 t145.length coz13):Value).ownBlock∧some k_ ≠ ((.slice Aoz14 t150.length coz14):Value).ownBlock) (.slice Aoz7 t123.length coz7) t123)∧Aside0 (Kd.R k140 140 wc w.heap.size (fun _=>True) (.slice Aoz8 t129.length coz8) t129)∧Aside0 (Kd.S k162 162 wc w.heap.size (fun k_=>some k_ ≠ ((.slice Aoz7 t123.length coz7):Value).ownBlock∧some k_ ≠ ((.slice Aoz12 t142.length coz12):Value).ownBlock∧some k_ ≠ ((.slice Aoz13 t145.length coz13):Value).ownBlock∧some k_ ≠ ((.slice Aoz14 t150.length coz14):Value).ownBlock) (.slice Aoz9 t132.length coz9) t132)∧Aside0 (Kd.S k97 97 wc w.heap.size (fun _=>True) (.slice Aoz10 t135.length coz10) t135)∧Aside0 (Kd.S k73 73 wc w.heap.size (fun k_=>some k_ ≠ ((.slice Aoz7 t123.length coz7):Value).ownBlock∧some k_ ≠ ((.slice Aoz12 t142.length coz12):Value).ownBlock∧some k_ ≠ ((.slice Aoz13 t145.length coz13):Value).ownBlock∧some k_ ≠ ((.slice Aoz14 t150.length coz14):Value).ownBlock) (.slice Aoz11 t139.length coz11) t139)∧Aside0 (Kd.R (Kd.int .i64) 3 wc w.heap.size (fun k_=>some k_ ≠ ((.slice Aoz7 t123.length coz7):Value).ownBlock∧some k_ ≠ ((.slice Aoz13 t145.length coz13):Value).ownBlock∧some k_ ≠ ((.slice Aoz14 t150.length coz14):Value).ownBlock) (.slice Aoz12 t142.length coz12) t142)∧Aside0 (Kd.R (Kd.int .i64) 3 wc w.heap.size (fun k_=>some k_ ≠ ((.slice Aoz7 t123.length coz7):Value).ownBlock∧some k_ ≠ ((.slice Aoz12 t142.length coz12):Value).ownBlock∧some k_ ≠ ((.slice Aoz14 t150.length coz14):Value).ownBlock) (.slice Aoz13 t145.length coz13) t145)∧Aside0 (Kd.R (Kd.int .i64) 3 wc w.heap.size (fun k_=>some k_ ≠ ((.slice Aoz7 t123.length coz7):Value).ownBlock∧some k_ ≠ ((.slice Aoz12 t142.length coz12):Value).ownBlock∧some k_ ≠ ((.slice Aoz13 t145.length coz13):Value).ownBlock) (.slice Aoz14 t150.length coz14) t150)∧Aside0 (wc.heap[gbz1]? = some (.cells #[(.slice A0_0 l0_0.length c0_0),(.slice A0_1 l0_1.length c0_1),(.slice A0_2 l0_2.length c0_2),.int .i64 a0_3,(.slice A0_4 l0_4.length c0_4),(.slice A0_5 l0_5.length c0_5),(.slice A0_6 l0_6.length c0_6),.int .i64 a0_7] 32 (0,0)))∧Aside0 (wc.heap[gbz2]? = some (.cells #[(.slice Aoz7 t123.length coz7),.int .i64 t126] 41 (0,0)))∧Aside0 (wc.heap[gbz3]? = some (.cells #[(.slice Aoz8 t129.length coz8),(.slice Aoz9 t132.length coz9),(.slice Aoz10 t135.length coz10),.int .i64 t138,(.slice Aoz11 t139.length coz11),(.slice Aoz12 t142.length coz12),(.slice Aoz13 t145.length coz13),.int .i64 t148] 43 (0,0)))∧Aside0 (wc.heap[gbz4]? = some (.cells #[(.slice Aoz14 t150.length coz14),.int .i64 t153] 41 (0,0)))∧Aside0 (Below w.heap.size w wc)∧Aside0 (Two k162 k73 162 73 wc w.heap.size (fun k_=>((some k_ ≠ ((.slice Aoz12 t142.length coz12):Value).ownBlock∧some k_ ≠ ((.slice Aoz13 t145.length coz13):Value).ownBlock)∧some k_ ≠ ((.slice Aoz7 t123.length coz7):Value).ownBlock)∧some k_ ≠ ((.slice Aoz14 t150.length coz14):Value).ownBlock) (.slice Aoz9 t132.length coz9) t132 (.slice Aoz11 t139.length coz11) t139))
 case first =>
  have H:=HC11.out
  clear HC11
  replace H:=bE H;obtain⟨t156,A47,H⟩:=H
  cases t156
  case true =>
   rw[if_pos rfl] at H
   have H':=aM H
   clear H
   have hnby1:=NBz8.out
   have hncy1:=NBz7.out
   have hnby2:=NBz10.out
   have hncy2:=NBz9.out
   have hnby3:=NBz12.out
   have hncy3:=NBz11.out
   have hczy1:=cZ2 BKz4.out
   have hnby4:=NBz2.out
   have hncy4:=NBz1.out
   have hnby5:=NBz5.out
   have hncy5:=NBz6.out
   have hczy3:=cZ2 BKz2.out
   go_wp2_with ((with_reducible refine gate_callee (f:=23) rfl ?_);refine gB 23 34 Tryz.func23 (Xaf.calls _ _ _ _ _ _ _ _ _ _ _ (rw2 (rR HOz14.out BKz4.out) ((Kd.R_reads' HOz14.out).2.1)) (rw2 (rR HOz7.out BKz4.out) ((Kd.R_reads' HOz7.out).2.1)) A47.out) ?_;intro wy1 hb;replace HTW:=aM (two_below2 (twF HTW.out BKz4.out) hb);replace HOz1:=aM (Kd.R_below (rF HOz1.out BKz4.out) hb);replace HOz2:=aM (Kd.S_below (sF HOz2.out BKz4.out) hb);replace HOz3:=aM (Kd.S_below (sF HOz3.out BKz4.out) hb);replace HOz4:=aM (Kd.S_below (sF HOz4.out BKz4.out) hb);replace HOz5:=aM (Kd.R_below (rF HOz5.out BKz4.out) hb);replace HOz6:=aM (Kd.R_below (rF HOz6.out BKz4.out) hb);replace HOz7:=aM (Kd.R_below (rF HOz7.out BKz4.out) hb);replace HOz8:=aM (Kd.R_below (rF HOz8.out BKz4.out) hb);replace HOz9:=aM (Kd.S_below (sF HOz9.out BKz4.out) hb);replace HOz10:=aM (Kd.S_below (sF HOz10.out BKz4.out) hb);replace HOz11:=aM (Kd.S_below (sF HOz11.out BKz4.out) hb);replace HOz12:=aM (Kd.R_below (rF HOz12.out BKz4.out) hb);replace HOz13:=aM (Kd.R_below (rF HOz13.out BKz4.out) hb);replace HOz14:=aM (Kd.R_below (rF HOz14.out BKz4.out) hb);replace BKz1:=aF BKz1 hb;replace BKz2:=aF BKz2 hb;replace BKz3:=aF BKz3 hb;replace BKz4:=aM (blk_below (g:=gbz4) (o:=.cells #[.slice Aoz14 t150.length coz14,.int .i64 t153] 41 (0,0)) (bP BKz4.out) hb);replace HB:=aS HB hb;clear hb)
   go_meet
   case rel=>exact⟨_,((t154 != t127)),rS,H',⟨by first | omega | exact Nat.le_refl _⟩,⟨(rT (h:=by exact Kd.R_mono HOz7.out (fun _ hk=>⟨hk.1.1.2,⟨hk.1.2,hk.2⟩⟩)))⟩,⟨(rT (h:=by exact Kd.R_mono HOz8.out (fun _ hk=>trivial)))⟩,⟨by (with_reducible repeat (first | apply Kd.S_alloc | apply Kd.S_drewN | apply Kd.S_drew));exact Kd.S_mono HOz9.out (fun _ hk=>⟨hk.1.2,⟨hk.1.1.1.1.1.1,⟨hk.1.1.1.1.1.2,hk.2⟩⟩⟩)⟩,⟨by (with_reducible repeat (first | apply Kd.S_alloc | apply Kd.S_drewN | apply Kd.S_drew));exact Kd.S_mono HOz10.out (fun _ hk=>trivial)⟩,⟨by (with_reducible repeat (first | apply Kd.S_alloc | apply Kd.S_drewN | apply Kd.S_drew));exact Kd.S_mono HOz11.out (fun _ hk=>⟨hk.1.2,⟨hk.1.1.1.1.1.1,⟨hk.1.1.1.1.1.2,hk.2⟩⟩⟩)⟩,⟨(rT (h:=by exact Kd.R_mono HOz12.out (fun _ hk=>⟨hk.1.2,⟨hk.1.1.1.1,hk.2⟩⟩)))⟩,⟨(rT (h:=by exact Kd.R_mono HOz13.out (fun _ hk=>⟨hk.1.2,⟨hk.1.1.1.1,hk.2⟩⟩)))⟩,⟨(rT (h:=by exact Kd.R_mono HOz14.out (fun _ hk=>⟨hk.1.1.2,⟨hk.1.2,hk.2⟩⟩)))⟩,⟨(bX BKz1.out)⟩,⟨(bX BKz2.out)⟩,⟨(bX BKz3.out)⟩,⟨(bX BKz4.out)⟩,⟨(hX HB.out)⟩,⟨twX2 HTW.out⟩⟩
  rw[if_neg nft] at H
  have H':=aM H
  clear H
  have hnby1:=NBz8.out
  have hncy1:=NBz7.out
  have hnby2:=NBz10.out
  have hncy2:=NBz9.out
  have hnby3:=NBz12.out
  have hncy3:=NBz11.out
  have hczy1:=cZ2 BKz4.out
  have hnby4:=NBz2.out
  have hncy4:=NBz1.out
  have hnby5:=NBz5.out
  have hncy5:=NBz6.out
  have hczy3:=cZ2 BKz2.out
  go_wp2_with ((with_reducible refine gate_callee (f:=23) rfl ?_);refine gB 23 34 Tryz.func23 (Xaf.calls _ _ _ _ _ _ _ _ _ _ _ (rw2 (rR HOz14.out BKz4.out) ((Kd.R_reads' HOz14.out).2.1)) (rw2 (rR HOz7.out BKz4.out) ((Kd.R_reads' HOz7.out).2.1)) A47.out) ?_;intro wy1 hb;replace HTW:=aM (two_below2 (twF HTW.out BKz4.out) hb);replace HOz1:=aM (Kd.R_below (rF HOz1.out BKz4.out) hb);replace HOz2:=aM (Kd.S_below (sF HOz2.out BKz4.out) hb);replace HOz3:=aM (Kd.S_below (sF HOz3.out BKz4.out) hb);replace HOz4:=aM (Kd.S_below (sF HOz4.out BKz4.out) hb);replace HOz5:=aM (Kd.R_below (rF HOz5.out BKz4.out) hb);replace HOz6:=aM (Kd.R_below (rF HOz6.out BKz4.out) hb);replace HOz7:=aM (Kd.R_below (rF HOz7.out BKz4.out) hb);replace HOz8:=aM (Kd.R_below (rF HOz8.out BKz4.out) hb);replace HOz9:=aM (Kd.S_below (sF HOz9.out BKz4.out) hb);replace HOz10:=aM (Kd.S_below (sF HOz10.out BKz4.out) hb);replace HOz11:=aM (Kd.S_below (sF HOz11.out BKz4.out) hb);replace HOz12:=aM (Kd.R_below (rF HOz12.out BKz4.out) hb);replace HOz13:=aM (Kd.R_below (rF HOz13.out BKz4.out) hb);replace HOz14:=aM (Kd.R_below (rF HOz14.out BKz4.out) hb);replace BKz1:=aF BKz1 hb;replace BKz2:=aF BKz2 hb;replace BKz3:=aF BKz3 hb;replace BKz4:=aM (blk_below (g:=gbz4) (o:=.cells #[.slice Aoz14 t150.length coz14,.int .i64 t153] 41 (0,0)) (bP BKz4.out) hb);replace HB:=aS HB hb;clear hb)
  go_meet
  case rel=>exact⟨_,(true),rS,H',⟨by first | omega | exact Nat.le_refl _⟩,⟨(rT (h:=by exact Kd.R_mono HOz7.out (fun _ hk=>⟨hk.1.1.2,⟨hk.1.2,hk.2⟩⟩)))⟩,⟨(rT (h:=by exact Kd.R_mono HOz8.out (fun _ hk=>trivial)))⟩,⟨by (with_reducible repeat (first | apply Kd.S_alloc | apply Kd.S_drewN | apply Kd.S_drew));exact Kd.S_mono HOz9.out (fun _ hk=>⟨hk.1.2,⟨hk.1.1.1.1.1.1,⟨hk.1.1.1.1.1.2,hk.2⟩⟩⟩)⟩,⟨by (with_reducible repeat (first | apply Kd.S_alloc | apply Kd.S_drewN | apply Kd.S_drew));exact Kd.S_mono HOz10.out (fun _ hk=>trivial)⟩,⟨by (with_reducible repeat (first | apply Kd.S_alloc | apply Kd.S_drewN | apply Kd.S_drew));exact Kd.S_mono HOz11.out (fun _ hk=>⟨hk.1.2,⟨hk.1.1.1.1.1.1,⟨hk.1.1.1.1.1.2,hk.2⟩⟩⟩)⟩,⟨(rT (h:=by exact Kd.R_mono HOz12.out (fun _ hk=>⟨hk.1.2,⟨hk.1.1.1.1,hk.2⟩⟩)))⟩,⟨(rT (h:=by exact Kd.R_mono HOz13.out (fun _ hk=>⟨hk.1.2,⟨hk.1.1.1.1,hk.2⟩⟩)))⟩,⟨(rT (h:=by exact Kd.R_mono HOz14.out (fun _ hk=>⟨hk.1.1.2,⟨hk.1.2,hk.2⟩⟩)))⟩,⟨(bX BKz1.out)⟩,⟨(bX BKz2.out)⟩,⟨(bX BKz3.out)⟩,⟨(bX BKz4.out)⟩,⟨(hX HB.out)⟩,⟨twX2 HTW.out⟩⟩
 case rest =>
  clear HC11
  try clear c3b0
  try clear hczz1
  try clear hczz9
  try clear hczz17
  try clear hczz19
  try clear hczz27
  try clear hczz35
  obtain⟨kq,x40_10,rfl,HA,HJy1,HO_y1,HO_y2,HO_y3,HO_y4,HO_y5,HO_y6,HO_y7,HO_y8,BKz1,BKz2,BKz3,BKz4,HB,HTW⟩:=hcut
  cases kq with
  | zero=>exact absurd HA.out (by simp[Xk.j0])
  | succ kj10 =>
   have H:=HA.out
   clear HA
   simp only[Xk.j0] at H
   cases x40_10
   case true =>
    rw[if_pos rfl] at H
    exact fR
   rw[if_neg nft] at H
   replace H:=bE H;obtain⟨⟨t157,t160,t163,t166,t167,t170,t173,t176⟩,A66,H⟩:=H
   try dsimp only at H
   replace H:=bE H;obtain⟨t177,A67,H⟩:=H
   try go_wp2
   replace HO_y1:=aM (Kd.R_drew HO_y1.out)
   replace HO_y2:=aM (Kd.R_drew HO_y2.out)
   replace HO_y3:=aM (Kd.S_drew HO_y3.out)
   replace HO_y4:=aM (Kd.S_drew HO_y4.out)
   replace HO_y5:=aM (Kd.S_drew HO_y5.out)
   replace HO_y6:=aM (Kd.R_drew HO_y6.out)
   replace HO_y7:=aM (Kd.R_drew HO_y7.out)
   replace HO_y8:=aM (Kd.R_drew HO_y8.out)
   replace BKz1:=aM (blk_drew BKz1.out)
   replace BKz2:=aM (blk_drew BKz2.out)
   replace BKz3:=aM (blk_drew BKz3.out)
   replace BKz4:=aM (blk_drew BKz4.out)
   replace HB:=aM (below_drew1 HB.out)
   replace HTW:=aM (two_drew HTW.out)
   refine start_ (n:=5) (S:=fun w'=>w'.cell? ⟨gbz3,0,none⟩=some (.slice Aoz8 t129.length coz8)∧w'.cell? ⟨gbz3,1,none⟩=some (.slice Aoz9 t132.length coz9)∧w'.cell? ⟨gbz3,2,none⟩=some (.slice Aoz10 t135.length coz10)∧w'.cell? ⟨gbz3,3,none⟩=some (.int .i64 t138)∧w'.cell? ⟨gbz3,4,none⟩=some (.slice Aoz11 t139.length coz11)∧w'.cell? ⟨gbz3,5,none⟩=some (.slice Aoz12 t142.length coz12)∧w'.cell? ⟨gbz3,6,none⟩=some (.slice Aoz13 t145.length coz13)∧w'.cell? ⟨gbz3,7,none⟩=some (.int .i64 t148)∧w'.cell? ⟨gbz1,0,none⟩=some (.slice A0_0 l0_0.length c0_0)∧w'.cell? ⟨gbz1,1,none⟩=some (.slice A0_1 l0_1.length c0_1)∧w'.cell? ⟨gbz1,2,none⟩=some (.slice A0_2 l0_2.length c0_2)∧w'.cell? ⟨gbz1,3,none⟩=some (.int .i64 a0_3)∧w'.cell? ⟨gbz1,4,none⟩=some (.slice A0_4 l0_4.length c0_4)∧w'.cell? ⟨gbz1,5,none⟩=some (.slice A0_5 l0_5.length c0_5)∧w'.cell? ⟨gbz1,6,none⟩=some (.slice A0_6 l0_6.length c0_6)∧w'.cell? ⟨gbz1,7,none⟩=some (.int .i64 a0_7)) (ds:=[]) (bm 5 0) (by kernel_rfl) rfl (by kernel_rfl) ⟨cK BKz3.out 0,cK BKz3.out 1,cK BKz3.out 2,cK BKz3.out 3,cK BKz3.out 4,cK BKz3.out 5,cK BKz3.out 6,cK BKz3.out 7,cK BKz1.out 0,cK BKz1.out 1,cK BKz1.out 2,cK BKz1.out 3,cK BKz1.out 4,cK BKz1.out 5,cK BKz1.out 6,cK BKz1.out 7⟩ (fun hHeld => ?_)
   generalize wc.drew=wx1 at HO_y1 HO_y2 HO_y3 HO_y4 HO_y5 HO_y6 HO_y7 HO_y8 BKz1 BKz2 BKz3 BKz4 HB HTW hHeld ⊢
   refine tK 0 41 (bm 5 1) hHeld ?_
   refine tK 1 42 (bm 5 3) hHeld ?_
   refine oK 2 (some 43) (bm 5 7) (fun K hK => ?_)
   refine goesN Tryz.func12 #[.agg #[.slice A0_0 l0_0.length c0_0,.slice A0_1 l0_1.length c0_1,.slice A0_2 l0_2.length c0_2,.int .i64 a0_3,.slice A0_4 l0_4.length c0_4,.slice A0_5 l0_5.length c0_5,.slice A0_6 l0_6.length c0_6,.int .i64 a0_7]] ?_
   refine(XU.calls kj10 _ _ l0_0 _ _ l0_1 _ _ l0_2 a0_3 _ _ l0_4 _ _ l0_5 _ _ l0_6 a0_7 t157 t160 t163 t166 t167 t170 t173 t176 _ (rW HR0_0 HB HC0_0) (rW HR0_1 HB HC0_1) (rW HR0_2 HB HC0_2) (rW HR0_4 HB HC0_4) (rW HR0_5 HB HC0_5) (rW HR0_6 HB HC0_6) A66.out).mono ?_
   rintro e wx2 ⟨vx1,vx2,vx3,vx4,vx5,vx6,rfl,hoz1,hoz2,hoz3,hoz4,hoz5,hoz6,hb⟩
   refine⟨_,rfl,?_⟩
   replace HTW:=twT2 HTW hb
   have HOx1:=aM (Kd.R_lower (Kd.R_new' hoz1 (Kd.R_lt (rX HO_y2.out))) (below_size (hX HB.out)))
   have HOx2:=aM (Kd.S_lower (Kd.S_new' (Kd.S_new' (Kd.S_new' (Kd.S_new' (Kd.S_new' hoz2 (Kd.R_lt (rX HO_y1.out))) (Kd.S_lt (sX HO_y3.out))) (Kd.R_lt (rX HO_y6.out))) (Kd.R_lt (rX HO_y7.out))) (Kd.R_lt (rX HO_y8.out))) (below_size (hX HB.out)))
   have HOx3:=aM (Kd.S_lower (Kd.S_new' hoz3 (Kd.S_lt (sX HO_y4.out))) (below_size (hX HB.out)))
   have HOx4:=aM (Kd.S_lower (Kd.S_new' (Kd.S_new' (Kd.S_new' (Kd.S_new' (Kd.S_new' hoz4 (Kd.R_lt (rX HO_y1.out))) (Kd.S_lt (sX HO_y5.out))) (Kd.R_lt (rX HO_y6.out))) (Kd.R_lt (rX HO_y7.out))) (Kd.R_lt (rX HO_y8.out))) (below_size (hX HB.out)))
   have HOx5:=aM (Kd.R_lower (Kd.R_new' (Kd.R_new' (Kd.R_new' (Kd.R_new' hoz5 (Kd.R_lt (rX HO_y1.out))) (Kd.R_lt (rX HO_y6.out))) (Kd.R_lt (rX HO_y7.out))) (Kd.R_lt (rX HO_y8.out))) (below_size (hX HB.out)))
   have HOx6:=aM (Kd.R_lower (Kd.R_new' (Kd.R_new' (Kd.R_new' (Kd.R_new' hoz6 (Kd.R_lt (rX HO_y1.out))) (Kd.R_lt (rX HO_y6.out))) (Kd.R_lt (rX HO_y7.out))) (Kd.R_lt (rX HO_y8.out))) (below_size (hX HB.out)))
   replace HO_y1:=aM (Kd.R_mono (Kd.R_told (Kd.R_told (Kd.R_old (rX HO_y1.out) hb) (Kd.R_base hoz5)) (Kd.R_base hoz6)) (fun _ h_=>h_.1))
   replace HO_y2:=aM (Kd.R_elder' (rX HO_y2.out) (Kd.R_base hoz1) hb)
   replace HO_y3:=aM (Kd.S_mono (Kd.S_told (Kd.S_told (Kd.S_told (Kd.S_old (sX HO_y3.out) hb) (Kd.S_base hoz2)) (Kd.R_base hoz5)) (Kd.R_base hoz6)) (fun _ h_=>h_.1))
   replace HO_y4:=aM (Kd.S_elder' (sX HO_y4.out) (Kd.S_base hoz3) hb)
   replace HO_y5:=aM (Kd.S_mono (Kd.S_told (Kd.S_told (Kd.S_told (Kd.S_old (sX HO_y5.out) hb) (Kd.S_base hoz4)) (Kd.R_base hoz5)) (Kd.R_base hoz6)) (fun _ h_=>h_.1))
   replace HO_y6:=aM (Kd.R_mono (Kd.R_told (Kd.R_told (Kd.R_old (rX HO_y6.out) hb) (Kd.R_base hoz5)) (Kd.R_base hoz6)) (fun _ h_=>h_.1))
   replace HO_y7:=aM (Kd.R_mono (Kd.R_told (Kd.R_told (Kd.R_old (rX HO_y7.out) hb) (Kd.R_base hoz5)) (Kd.R_base hoz6)) (fun _ h_=>h_.1))
   replace HO_y8:=aM (Kd.R_mono (Kd.R_told (Kd.R_told (Kd.R_old (rX HO_y8.out) hb) (Kd.R_base hoz5)) (Kd.R_base hoz6)) (fun _ h_=>h_.1))
   replace BKz1:=aB BKz1 hb
   replace BKz2:=aB BKz2 hb
   replace BKz3:=aB BKz3 hb
   replace BKz4:=aB BKz4 hb
   replace HB:=aS HB hb
   (try clear hb)
   (try clear hk)
   (try clear hoz1)
   (try clear hoz2)
   (try clear hoz3)
   (try clear hoz4)
   (try clear hoz5)
   (try clear hoz6)
   obtain⟨Aox1,cox1,eox1⟩:=Kd.R_slice HOx1.out
   (first | subst eox1 | (injection eox1 with f1_ f2_ f3_;have fx1:=f1_.symm;have fx2:=f3_.symm;clear f1_ f2_ f3_;subst fx1;subst fx2))
   obtain⟨Aox2,cox2,eox2⟩:=Kd.S_slice HOx2.out
   (first | subst eox2 | (injection eox2 with f1_ f2_ f3_;have fx1:=f1_.symm;have fx2:=f3_.symm;clear f1_ f2_ f3_;subst fx1;subst fx2))
   obtain⟨Aox3,cox3,eox3⟩:=Kd.S_slice HOx3.out
   (first | subst eox3 | (injection eox3 with f1_ f2_ f3_;have fx1:=f1_.symm;have fx2:=f3_.symm;clear f1_ f2_ f3_;subst fx1;subst fx2))
   obtain⟨Aox4,cox4,eox4⟩:=Kd.S_slice HOx4.out
   (first | subst eox4 | (injection eox4 with f1_ f2_ f3_;have fx1:=f1_.symm;have fx2:=f3_.symm;clear f1_ f2_ f3_;subst fx1;subst fx2))
   obtain⟨Aox5,cox5,eox5⟩:=Kd.R_slice HOx5.out
   (first | subst eox5 | (injection eox5 with f1_ f2_ f3_;have fx1:=f1_.symm;have fx2:=f3_.symm;clear f1_ f2_ f3_;subst fx1;subst fx2))
   obtain⟨Aox6,cox6,eox6⟩:=Kd.R_slice HOx6.out
   (first | subst eox6 | (injection eox6 with f1_ f2_ f3_;have fx1:=f1_.symm;have fx2:=f3_.symm;clear f1_ f2_ f3_;subst fx1;subst fx2))
   refine hK.out _ _ ⟨cK BKz3.out 0,cK BKz3.out 1,cK BKz3.out 2,cK BKz3.out 3,cK BKz3.out 4,cK BKz3.out 5,cK BKz3.out 6,cK BKz3.out 7,cK BKz1.out 0,cK BKz1.out 1,cK BKz1.out 2,cK BKz1.out 3,cK BKz1.out 4,cK BKz1.out 5,cK BKz1.out 6,cK BKz1.out 7⟩ (fun hHeld => ?_)
   clear hK K
   refine nZ 43 ?_
   cases t177
   case false =>
    rw[if_neg nft] at H
    obtain rfl:=sI H
    refine oK 3 (some 44) (bm 5 15) (fun K hK => ?_)
    refine goesN Tryz.func14 #[.agg #[.slice Aoz8 t129.length coz8,.slice Aoz9 t132.length coz9,.slice Aoz10 t135.length coz10,.int .i64 t138,.slice Aoz11 t139.length coz11,.slice Aoz12 t142.length coz12,.slice Aoz13 t145.length coz13,.int .i64 t148],.agg #[.slice Aox1 t157.length cox1,.slice Aox2 t160.length cox2,.slice Aox3 t163.length cox3,.int .i64 t166,.slice Aox4 t167.length cox4,.slice Aox5 t170.length cox5,.slice Aox6 t173.length cox6,.int .i64 t176]] ?_
    refine(XaJ.calls kj10 _ _ t129 _ _ t132 _ _ t135 t138 _ _ t139 _ _ t142 _ _ t145 t148 _ _ t157 _ _ t160 _ _ t163 t166 _ _ t167 _ _ t170 _ _ t173 t176 false _ (rw2 (rD HO_y2.out) (rL HO_y2.out)) (rw2 (sD HO_y3.out) (sL HO_y3.out)) (rw2 (sD HO_y4.out) (sL HO_y4.out)) (rw2 (sD HO_y5.out) (sL HO_y5.out)) (rw2 (rD HO_y6.out) (rL HO_y6.out)) (rw2 (rD HO_y7.out) (rL HO_y7.out)) (rw2 (rD HOx1.out) (rL HOx1.out)) (rw2 (sD HOx2.out) (sL HOx2.out)) (rw2 (sD HOx3.out) (sL HOx3.out)) (rw2 (sD HOx4.out) (sL HOx4.out)) (rw2 (rD HOx5.out) (rL HOx5.out)) (rw2 (rD HOx6.out) (rL HOx6.out)) A67.out).mono ?_
    rintro e wx3 ⟨rfl,hb⟩
    refine⟨_,rfl,?_⟩
    replace HTW:=twT2 HTW hb
    replace HO_y1:=aQ HO_y1 hb
    replace HO_y2:=aQ HO_y2 hb
    replace HO_y3:=aT HO_y3 hb
    replace HO_y4:=aT HO_y4 hb
    replace HO_y5:=aT HO_y5 hb
    replace HO_y6:=aQ HO_y6 hb
    replace HO_y7:=aQ HO_y7 hb
    replace HO_y8:=aQ HO_y8 hb
    replace HOx1:=aQ HOx1 hb
    replace HOx2:=aT HOx2 hb
    replace HOx3:=aT HOx3 hb
    replace HOx4:=aT HOx4 hb
    replace HOx5:=aQ HOx5 hb
    replace HOx6:=aQ HOx6 hb
    replace BKz1:=aB BKz1 hb
    replace BKz2:=aB BKz2 hb
    replace BKz3:=aB BKz3 hb
    replace BKz4:=aB BKz4 hb
    replace HB:=aS HB hb
    (try clear hb)
    (try clear hk)
    refine hK.out _ _ ⟨cK BKz3.out 0,cK BKz3.out 1,cK BKz3.out 2,cK BKz3.out 3,cK BKz3.out 4,cK BKz3.out 5,cK BKz3.out 6,cK BKz3.out 7,cK BKz1.out 0,cK BKz1.out 1,cK BKz1.out 2,cK BKz1.out 3,cK BKz1.out 4,cK BKz1.out 5,cK BKz1.out 6,cK BKz1.out 7⟩ (fun hHeld => ?_)
    clear hK K
    refine nZ 44 ?_
    refine pK 4 45 (bm 5 31) ?_
    refine done_ (by kernel_rfl) ?_
    try go_wp2
    go_ret
    exact⟨rE,(hX HB.out)⟩
   rw[if_pos rfl] at H
   replace H:=bE H;obtain⟨t178,A69,H⟩:=H
   have HC70:=aM H
   clear H
   refine oK 3 (some 44) (bm 5 15) (fun K hK => ?_)
   refine goesN Tryz.func14 #[.agg #[.slice Aoz8 t129.length coz8,.slice Aoz9 t132.length coz9,.slice Aoz10 t135.length coz10,.int .i64 t138,.slice Aoz11 t139.length coz11,.slice Aoz12 t142.length coz12,.slice Aoz13 t145.length coz13,.int .i64 t148],.agg #[.slice Aox1 t157.length cox1,.slice Aox2 t160.length cox2,.slice Aox3 t163.length cox3,.int .i64 t166,.slice Aox4 t167.length cox4,.slice Aox5 t170.length cox5,.slice Aox6 t173.length cox6,.int .i64 t176]] ?_
   refine(XaJ.calls kj10 _ _ t129 _ _ t132 _ _ t135 t138 _ _ t139 _ _ t142 _ _ t145 t148 _ _ t157 _ _ t160 _ _ t163 t166 _ _ t167 _ _ t170 _ _ t173 t176 true _ (rw2 (rD HO_y2.out) (rL HO_y2.out)) (rw2 (sD HO_y3.out) (sL HO_y3.out)) (rw2 (sD HO_y4.out) (sL HO_y4.out)) (rw2 (sD HO_y5.out) (sL HO_y5.out)) (rw2 (rD HO_y6.out) (rL HO_y6.out)) (rw2 (rD HO_y7.out) (rL HO_y7.out)) (rw2 (rD HOx1.out) (rL HOx1.out)) (rw2 (sD HOx2.out) (sL HOx2.out)) (rw2 (sD HOx3.out) (sL HOx3.out)) (rw2 (sD HOx4.out) (sL HOx4.out)) (rw2 (rD HOx5.out) (rL HOx5.out)) (rw2 (rD HOx6.out) (rL HOx6.out)) A67.out).mono ?_
   rintro e wx3 ⟨rfl,hb⟩
   refine⟨_,rfl,?_⟩
   replace HTW:=twT2 HTW hb
   replace HO_y1:=aQ HO_y1 hb
   replace HO_y2:=aQ HO_y2 hb
   replace HO_y3:=aT HO_y3 hb
   replace HO_y4:=aT HO_y4 hb
   replace HO_y5:=aT HO_y5 hb
   replace HO_y6:=aQ HO_y6 hb
   replace HO_y7:=aQ HO_y7 hb
   replace HO_y8:=aQ HO_y8 hb
   replace HOx1:=aQ HOx1 hb
   replace HOx2:=aT HOx2 hb
   replace HOx3:=aT HOx3 hb
   replace HOx4:=aT HOx4 hb
   replace HOx5:=aQ HOx5 hb
   replace HOx6:=aQ HOx6 hb
   replace BKz1:=aB BKz1 hb
   replace BKz2:=aB BKz2 hb
   replace BKz3:=aB BKz3 hb
   replace BKz4:=aB BKz4 hb
   replace HB:=aS HB hb
   (try clear hb)
   (try clear hk)
   refine hK.out _ _ ⟨cK BKz3.out 0,cK BKz3.out 1,cK BKz3.out 2,cK BKz3.out 3,cK BKz3.out 4,cK BKz3.out 5,cK BKz3.out 6,cK BKz3.out 7,cK BKz1.out 0,cK BKz1.out 1,cK BKz1.out 2,cK BKz1.out 3,cK BKz1.out 4,cK BKz1.out 5,cK BKz1.out 6,cK BKz1.out 7⟩ (fun hHeld => ?_)
   clear hK K
   refine nZ 44 ?_
   refine pK 4 45 (bm 5 31) ?_
   refine done_ (by kernel_rfl) ?_
   have hnbx1:=nB NBz4 NBz3
   have hnbx2:=nB NBz6 NBz5
   have hnbx3:=nB NBz11 NBz12
   have hczx1:=cZ8 BKz3.out
   go_upto_region 14 with((with_reducible refine gate_callee (f:=27) rfl ?_);refine goesM 27 48 Tryz.func27 #[.agg #[.slice Aoz8 t129.length coz8,.slice Aoz9 t132.length coz9,.slice Aoz10 t135.length coz10,.int .i64 t138,.slice Aoz11 t139.length coz11,.slice Aoz12 t142.length coz12,.slice Aoz13 t145.length coz13,.int .i64 t148],.int .i64 1] ?_;refine(Xat.two kj10 _ _ _ _ _ _ _ _ _ _ _ t129 t132 t135 t138 t139 t142 t145 t148 1 t178 w _ (hX HB.out) HO_y2.out HTW.out HO_y4.out HO_y6.out HO_y7.out (fun _ h_=>h_.1.1.1) (fun _ h_=>h_.1.1.2) (fun _ h_=>h_.1.1.2.1) A69.out).mono ?_;rintro e wx4 ⟨q129,q132,q135,q139,q142,q145,rfl,hm1,hm2,hm3,hm4,hm5,hm6,hb,hkp⟩;refine⟨_,rfl,?_⟩;replace HO_y1:=aM (Kd.R_reok rfl (Kd.R_kept (Kd.R_tight rfl (rX HO_y1.out)) hkp (fun k_ h_ e_=>e_.elim (fun e_=>Deep.Ty_no (l:=[3]) (Deep.own_ty (rX HO_y1.out) k_ h_.symm) e_ (by decide)) (fun e_=>e_.1.elim (fun e_=>e_.1.2 h_) (fun e_=>e_.elim (fun e_=>(HO_y1.out.1 k_ h_.symm).1.1.1 e_) (fun e_=>(HO_y1.out.1 k_ h_.symm).1.1.2.1 e_))))) (fun k_ e_=>HO_y1.out.1 k_ e_));replace HO_y8:=aM (Kd.R_reok rfl (Kd.R_kept (Kd.R_tight rfl (rX HO_y8.out)) hkp (fun k_ h_ e_=>e_.elim (fun e_=>Deep.Ty_no (l:=[3]) (Deep.own_ty (rX HO_y8.out) k_ h_.symm) e_ (by decide)) (fun e_=>e_.1.elim (fun e_=>e_.2 h_) (fun e_=>e_.elim (fun e_=>(HO_y8.out.1 k_ h_.symm).1.1.2.1 e_) (fun e_=>(HO_y8.out.1 k_ h_.symm).1.1.2.2 e_))))) (fun k_ e_=>HO_y8.out.1 k_ e_));replace HO_y2:=aM hm1;replace HO_y3:=aM (Kd.S_mono hm2 (fun _ h_=>(⟨h_.1.2,h_.1.1.1,h_.1.1.2,h_.2⟩:_∧_∧_∧_)));replace HO_y4:=aM hm3;replace HO_y5:=aM (Kd.S_mono hm4 (fun _ h_=>(⟨h_.1.2,h_.1.1.1,h_.1.1.2,h_.2⟩:_∧_∧_∧_)));replace HO_y6:=aM hm5;replace HO_y7:=aM hm6;replace BKz1:=aM (blk_kept (bX BKz1.out) hkp (fun e_=>e_.elim (fun e_=>Deep.Ty_blk2 (bX BKz1.out) e_ (by decide)) (fun e_=>Deep.Ty_blk2 (bX BKz1.out) e_.2 (by decide))));replace BKz2:=aM (blk_kept (bX BKz2.out) hkp (fun e_=>e_.elim (fun e_=>Deep.Ty_blk2 (bX BKz2.out) e_ (by decide)) (fun e_=>Deep.Ty_blk2 (bX BKz2.out) e_.2 (by decide))));replace BKz3:=aM (blk_kept (bX BKz3.out) hkp (fun e_=>e_.elim (fun e_=>Deep.Ty_blk2 (bX BKz3.out) e_ (by decide)) (fun e_=>Deep.Ty_blk2 (bX BKz3.out) e_.2 (by decide))));replace BKz4:=aM (blk_kept (bX BKz4.out) hkp (fun e_=>e_.elim (fun e_=>Deep.Ty_blk2 (bX BKz4.out) e_ (by decide)) (fun e_=>Deep.Ty_blk2 (bX BKz4.out) e_.2 (by decide))));replace HB:=aM hb;clear hb hkp hm1 hm2 hm3 hm4 hm5 hm6 HTW HOx1 HOx2 HOx3 HOx4 HOx5 HOx6)
   (try simp only[Act.put,List.setIfInBounds_toArray,List.set_cons_zero,List.set_cons_succ])
   go_cut [61] (fun vx7 wc=>∃ (kq:Nat) (x61_69:Bool),vx7 = .bool x61_69∧Aside0 (Xk.j1 kq t127 x61_69 l0_0 l0_1 l0_2 a0_3 l0_4 l0_5 l0_6 a0_7 t123 t126 t150 t153=some r)∧Aside0 (kq≤kj10)∧Aside0 (Kd.R (Kd.int .i64) 3 wc w.heap.size (fun k_=>some k_ ≠ ((.slice Aoz12 t142.length coz12):Value).ownBlock∧some k_ ≠ ((.slice Aoz13 t145.length coz13):Value).ownBlock∧some k_ ≠ ((.slice Aoz14 t150.length coz14):Value).ownBlock) (.slice Aoz7 t123.length coz7) t123)∧Aside0 (Kd.R k140 140 wc w.heap.size (fun _=>True) (.slice Aoz8 t129.length coz8) q129)∧Aside0 (Kd.S k162 162 wc w.heap.size (fun k_=>some k_ ≠ ((.slice Aoz7 t123.length coz7):Value).ownBlock∧some k_ ≠ ((.slice Aoz12 t142.length coz12):Value).ownBlock∧some k_ ≠ ((.slice Aoz13 t145.length coz13):Value).ownBlock∧some k_ ≠ ((.slice Aoz14 t150.length coz14):Value).ownBlock) (.slice Aoz9 t132.length coz9) q132)∧Aside0 (Kd.S k97 97 wc w.heap.size (fun _=>True) (.slice Aoz10 t135.length coz10) q135)∧Aside0 (Kd.S k73 73 wc w.heap.size (fun k_=>some k_ ≠ ((.slice Aoz7 t123.length coz7):Value).ownBlock∧some k_ ≠ ((.slice Aoz12 t142.length coz12):Value).ownBlock∧some k_ ≠ ((.slice Aoz13 t145.length coz13):Value).ownBlock∧some k_ ≠ ((.slice Aoz14 t150.length coz14):Value).ownBlock) (.slice Aoz11 t139.length coz11) q139)∧Aside0 (Kd.R (Kd.int .i64) 3 wc w.heap.size (fun k_=>some k_ ≠ ((.slice Aoz7 t123.length coz7):Value).ownBlock∧some k_ ≠ ((.slice Aoz13 t145.length coz13):Value).ownBlock∧some k_ ≠ ((.slice Aoz14 t150.length coz14):Value).ownBlock) (.slice Aoz12 t142.length coz12) q142)∧Aside0 (Kd.R (Kd.int .i64) 3 wc w.heap.size (fun k_=>some k_ ≠ ((.slice Aoz7 t123.length coz7):Value).ownBlock∧some k_ ≠ ((.slice Aoz12 t142.length coz12):Value).ownBlock∧some k_ ≠ ((.slice Aoz14 t150.length coz14):Value).ownBlock) (.slice Aoz13 t145.length coz13) q145)∧Aside0 (Kd.R (Kd.int .i64) 3 wc w.heap.size (fun k_=>some k_ ≠ ((.slice Aoz7 t123.length coz7):Value).ownBlock∧some k_ ≠ ((.slice Aoz12 t142.length coz12):Value).ownBlock∧some k_ ≠ ((.slice Aoz13 t145.length coz13):Value).ownBlock) (.slice Aoz14 t150.length coz14) t150)∧Aside0 (wc.heap[gbz1]? = some (.cells #[(.slice A0_0 l0_0.length c0_0),(.slice A0_1 l0_1.length c0_1),(.slice A0_2 l0_2.length c0_2),.int .i64 a0_3,(.slice A0_4 l0_4.length c0_4),(.slice A0_5 l0_5.length c0_5),(.slice A0_6 l0_6.length c0_6),.int .i64 a0_7] 32 (0,0)))∧Aside0 (wc.heap[gbz2]? = some (.cells #[(.slice Aoz7 t123.length coz7),.int .i64 t126] 41 (0,0)))∧Aside0 (wc.heap[gbz3]? = some (.cells #[(.slice Aoz8 t129.length coz8),(.slice Aoz9 t132.length coz9),(.slice Aoz10 t135.length coz10),.int .i64 t138,(.slice Aoz11 t139.length coz11),(.slice Aoz12 t142.length coz12),(.slice Aoz13 t145.length coz13),.int .i64 t148] 43 (0,0)))∧Aside0 (wc.heap[gbz4]? = some (.cells #[(.slice Aoz14 t150.length coz14),.int .i64 t153] 41 (0,0)))∧Aside0 (Below w.heap.size w wc))
   case first =>
    have H:=HC70.out
    clear HC70
    revert H;refine iP ?_ ?_<;>intro c85b0 H
    ·(first | rw[c85b0] | (simp only[i64_w,i32_w];rw[c85b0]) | skip)
     have H':=aM H
     clear H
     go_wp2
     go_meet
     case rel=>exact⟨_,(true),rS,H',⟨by have:=HJy1.out;first | omega | exact Nat.le_refl _⟩,⟨(rT (h:=by exact Kd.R_mono HO_y1.out (fun _ hk=>⟨hk.1.1.1,⟨hk.1.1.2.1,hk.1.1.2.2⟩⟩)))⟩,⟨(rT (h:=by exact Kd.R_mono HO_y2.out (fun _ hk=>trivial)))⟩,⟨by (with_reducible repeat (first | apply Kd.S_alloc | apply Kd.S_drewN | apply Kd.S_drew));exact Kd.S_mono HO_y3.out (fun _ hk=>hk)⟩,⟨by (with_reducible repeat (first | apply Kd.S_alloc | apply Kd.S_drewN | apply Kd.S_drew));exact Kd.S_mono HO_y4.out (fun _ hk=>trivial)⟩,⟨by (with_reducible repeat (first | apply Kd.S_alloc | apply Kd.S_drewN | apply Kd.S_drew));exact Kd.S_mono HO_y5.out (fun _ hk=>hk)⟩,⟨(rT (h:=by exact Kd.R_mono HO_y6.out (fun _ hk=>⟨hk.1.1.1,⟨hk.1.1.2.1,hk.1.1.2.2⟩⟩)))⟩,⟨(rT (h:=by exact Kd.R_mono HO_y7.out (fun _ hk=>⟨hk.1.1.1,⟨hk.1.1.2.1,hk.1.1.2.2⟩⟩)))⟩,⟨(rT (h:=by exact Kd.R_mono HO_y8.out (fun _ hk=>⟨hk.1.1.1,⟨hk.1.1.2.1,hk.1.1.2.2⟩⟩)))⟩,⟨(bX BKz1.out)⟩,⟨(bX BKz2.out)⟩,⟨(bX BKz3.out)⟩,⟨(bX BKz4.out)⟩,⟨(hX HB.out)⟩⟩
    (first | rw[c85b0] | (simp only[i64_w,i32_w];rw[c85b0]) | skip)
    replace H:=bE H;obtain⟨t179,A86,H⟩:=H
    cases t179
    case true =>
     rw[if_pos rfl] at H
     have H':=aM H
     clear H
     have hnbw1:=NBz8.out
     have hncw1:=NBz7.out
     have hnbw2:=NBz10.out
     have hncw2:=NBz9.out
     have hnbw3:=NBz12.out
     have hncw3:=NBz11.out
     have hczw1:=cZ2 BKz4.out
     have hnbw4:=NBz2.out
     have hncw4:=NBz1.out
     have hnbw5:=NBz5.out
     have hncw5:=NBz6.out
     have hczw3:=cZ2 BKz2.out
     go_wp2_with (go_at_call 23;(with_reducible refine(Xaf.calls _ _ _ _ _ _ _ _ _ _ _ (rw2 (cX (Kd.R_reads' HO_y8.out).2.2) ((Kd.R_reads' HO_y8.out).2.1)) (rw2 (cX (Kd.R_reads' HO_y1.out).2.2) ((Kd.R_reads' HO_y1.out).2.1)) A86.out).mono ?_);rintro e ww1 ⟨rfl,hb⟩;replace HO_y1:=aQ HO_y1 hb;replace HO_y2:=aQ HO_y2 hb;replace HO_y3:=aT HO_y3 hb;replace HO_y4:=aT HO_y4 hb;replace HO_y5:=aT HO_y5 hb;replace HO_y6:=aQ HO_y6 hb;replace HO_y7:=aQ HO_y7 hb;replace HO_y8:=aQ HO_y8 hb;replace BKz1:=aB BKz1 hb;replace BKz2:=aB BKz2 hb;replace BKz3:=aB BKz3 hb;replace BKz4:=aB BKz4 hb;replace HB:=aS HB hb;clear hb)
     go_meet
     case rel=>exact⟨_,((t154 != t127)),rS,H',⟨by have:=HJy1.out;first | omega | exact Nat.le_refl _⟩,⟨(rT (h:=by exact Kd.R_mono HO_y1.out (fun _ hk=>⟨hk.1.1.1,⟨hk.1.1.2.1,hk.1.1.2.2⟩⟩)))⟩,⟨(rT (h:=by exact Kd.R_mono HO_y2.out (fun _ hk=>trivial)))⟩,⟨by (with_reducible repeat (first | apply Kd.S_alloc | apply Kd.S_drewN | apply Kd.S_drew));exact Kd.S_mono HO_y3.out (fun _ hk=>hk)⟩,⟨by (with_reducible repeat (first | apply Kd.S_alloc | apply Kd.S_drewN | apply Kd.S_drew));exact Kd.S_mono HO_y4.out (fun _ hk=>trivial)⟩,⟨by (with_reducible repeat (first | apply Kd.S_alloc | apply Kd.S_drewN | apply Kd.S_drew));exact Kd.S_mono HO_y5.out (fun _ hk=>hk)⟩,⟨(rT (h:=by exact Kd.R_mono HO_y6.out (fun _ hk=>⟨hk.1.1.1,⟨hk.1.1.2.1,hk.1.1.2.2⟩⟩)))⟩,⟨(rT (h:=by exact Kd.R_mono HO_y7.out (fun _ hk=>⟨hk.1.1.1,⟨hk.1.1.2.1,hk.1.1.2.2⟩⟩)))⟩,⟨(rT (h:=by exact Kd.R_mono HO_y8.out (fun _ hk=>⟨hk.1.1.1,⟨hk.1.1.2.1,hk.1.1.2.2⟩⟩)))⟩,⟨(bX BKz1.out)⟩,⟨(bX BKz2.out)⟩,⟨(bX BKz3.out)⟩,⟨(bX BKz4.out)⟩,⟨(hX HB.out)⟩⟩
    rw[if_neg nft] at H
    have H':=aM H
    clear H
    have hnbw1:=NBz8.out
    have hncw1:=NBz7.out
    have hnbw2:=NBz10.out
    have hncw2:=NBz9.out
    have hnbw3:=NBz12.out
    have hncw3:=NBz11.out
    have hczw1:=cZ2 BKz4.out
    have hnbw4:=NBz2.out
    have hncw4:=NBz1.out
    have hnbw5:=NBz5.out
    have hncw5:=NBz6.out
    have hczw3:=cZ2 BKz2.out
    go_wp2_with (go_at_call 23;(with_reducible refine(Xaf.calls _ _ _ _ _ _ _ _ _ _ _ (rw2 (cX (Kd.R_reads' HO_y8.out).2.2) ((Kd.R_reads' HO_y8.out).2.1)) (rw2 (cX (Kd.R_reads' HO_y1.out).2.2) ((Kd.R_reads' HO_y1.out).2.1)) A86.out).mono ?_);rintro e ww1 ⟨rfl,hb⟩;replace HO_y1:=aQ HO_y1 hb;replace HO_y2:=aQ HO_y2 hb;replace HO_y3:=aT HO_y3 hb;replace HO_y4:=aT HO_y4 hb;replace HO_y5:=aT HO_y5 hb;replace HO_y6:=aQ HO_y6 hb;replace HO_y7:=aQ HO_y7 hb;replace HO_y8:=aQ HO_y8 hb;replace BKz1:=aB BKz1 hb;replace BKz2:=aB BKz2 hb;replace BKz3:=aB BKz3 hb;replace BKz4:=aB BKz4 hb;replace HB:=aS HB hb;clear hb)
    go_meet
    case rel=>exact⟨_,(true),rS,H',⟨by have:=HJy1.out;first | omega | exact Nat.le_refl _⟩,⟨(rT (h:=by exact Kd.R_mono HO_y1.out (fun _ hk=>⟨hk.1.1.1,⟨hk.1.1.2.1,hk.1.1.2.2⟩⟩)))⟩,⟨(rT (h:=by exact Kd.R_mono HO_y2.out (fun _ hk=>trivial)))⟩,⟨by (with_reducible repeat (first | apply Kd.S_alloc | apply Kd.S_drewN | apply Kd.S_drew));exact Kd.S_mono HO_y3.out (fun _ hk=>hk)⟩,⟨by (with_reducible repeat (first | apply Kd.S_alloc | apply Kd.S_drewN | apply Kd.S_drew));exact Kd.S_mono HO_y4.out (fun _ hk=>trivial)⟩,⟨by (with_reducible repeat (first | apply Kd.S_alloc | apply Kd.S_drewN | apply Kd.S_drew));exact Kd.S_mono HO_y5.out (fun _ hk=>hk)⟩,⟨(rT (h:=by exact Kd.R_mono HO_y6.out (fun _ hk=>⟨hk.1.1.1,⟨hk.1.1.2.1,hk.1.1.2.2⟩⟩)))⟩,⟨(rT (h:=by exact Kd.R_mono HO_y7.out (fun _ hk=>⟨hk.1.1.1,⟨hk.1.1.2.1,hk.1.1.2.2⟩⟩)))⟩,⟨(rT (h:=by exact Kd.R_mono HO_y8.out (fun _ hk=>⟨hk.1.1.1,⟨hk.1.1.2.1,hk.1.1.2.2⟩⟩)))⟩,⟨(bX BKz1.out)⟩,⟨(bX BKz2.out)⟩,⟨(bX BKz3.out)⟩,⟨(bX BKz4.out)⟩,⟨(hX HB.out)⟩⟩
   case rest =>
    clear HC70
    try clear c3b0
    try clear hczz1
    try clear hczz9
    try clear hczz17
    try clear hczz19
    try clear hczz27
    try clear hczz35
    try clear hczx1
    obtain⟨kq,x61_69,rfl,HA,HJw1,HO_y1,HO_y2,HO_y3,HO_y4,HO_y5,HO_y6,HO_y7,HO_y8,BKz1,BKz2,BKz3,BKz4,HB⟩:=hcut
    cases kq with
    | zero=>exact absurd HA.out (by simp[Xk.j1])
    | succ kj69 =>
     have H:=HA.out
     clear HA
     simp only[Xk.j1] at H
     cases x61_69
     case true =>
      rw[if_pos rfl] at H
      exact fR
     rw[if_neg nft] at H
     replace H:=bE H;obtain⟨⟨t180,t181⟩,A105,H⟩:=H
     try dsimp only at H
     replace H:=bE H;obtain⟨t182,A106,H⟩:=H
     revert H;refine iP ?_ ?_<;>intro c107b0 H
     ·obtain rfl:=sI H
      have hnbv1:=NBz8.out
      have hncv1:=NBz7.out
      have hnbv2:=NBz10.out
      have hncv2:=NBz9.out
      have hnbv3:=NBz12.out
      have hncv3:=NBz11.out
      have hczv1:=cZ2 BKz4.out
      go_wp2_with (first | (refine goesM 25 64 Tryz.func25 #[.agg #[.slice Aoz14 t150.length coz14,.int .i64 t153],.int .i64 1] ?_;refine(XaG.calls kj69 (fun k_=>some k_=(.slice Aoz14 t150.length coz14:Value).ownBlock) (.slice Aoz14 t150.length coz14) t150 t153 1 t180 t181 w _ (by repeat (first | (with_reducible first | exact HB.out | apply below_alloc | apply pw_below_drewN | apply below_drew1 | refine below_set ?_ GEz1.out | refine below_set ?_ GEz2.out | refine below_set ?_ GEz3.out | refine below_set ?_ GEz4.out) | exact HB.out)) (by exact Kd.R_tight rfl HO_y8.out) A105.out).mono ?_;rintro e wv1 ⟨rfl,hyv1,hb,hkp⟩;refine⟨_,rfl,?_⟩;replace HO_y1:=aM (Kd.R_mono (ok':=fun k_=>some k_ ≠ (.slice Aoz12 t142.length coz12:Value).ownBlock∧some k_ ≠ (.slice Aoz13 t145.length coz13:Value).ownBlock∧some k_ ≠ (.slice Aoz14 t150.length coz14:Value).ownBlock) (Kd.R_keptB (HO_y1.out) hkp (fun k_ hk_ hs_=>(hk_.2.2) hs_)) (fun k_ hk_=>⟨hk_.1.1,hk_.1.2.1,hk_.1.2.2⟩));replace HO_y2:=aM (Kd.R_mono (ok':=fun k_=>True) (Kd.R_keptB ((Kd.R_apart' HO_y2.out (Kd.R_typed HO_y8.out) (by decide))) hkp (fun k_ hk_ hs_=>(hk_.2) hs_)) (fun k_ hk_=>trivial));replace HO_y3:=aM (Kd.S_mono (ok':=fun k_=>some k_ ≠ (.slice Aoz7 t123.length coz7:Value).ownBlock∧some k_ ≠ (.slice Aoz12 t142.length coz12:Value).ownBlock∧some k_ ≠ (.slice Aoz13 t145.length coz13:Value).ownBlock∧some k_ ≠ (.slice Aoz14 t150.length coz14:Value).ownBlock) (Kd.S_keptB (HO_y3.out) hkp (fun k_ hk_ hs_=>(hk_.2.2.2) hs_)) (fun k_ hk_=>⟨hk_.1.1,hk_.1.2.1,hk_.1.2.2.1,hk_.1.2.2.2⟩));replace HO_y4:=aM (Kd.S_mono (ok':=fun k_=>True) (Kd.S_keptB ((Kd.S_apart' HO_y4.out (Kd.R_typed HO_y8.out) (by decide))) hkp (fun k_ hk_ hs_=>(hk_.2) hs_)) (fun k_ hk_=>trivial));replace HO_y5:=aM (Kd.S_mono (ok':=fun k_=>some k_ ≠ (.slice Aoz7 t123.length coz7:Value).ownBlock∧some k_ ≠ (.slice Aoz12 t142.length coz12:Value).ownBlock∧some k_ ≠ (.slice Aoz13 t145.length coz13:Value).ownBlock∧some k_ ≠ (.slice Aoz14 t150.length coz14:Value).ownBlock) (Kd.S_keptB (HO_y5.out) hkp (fun k_ hk_ hs_=>(hk_.2.2.2) hs_)) (fun k_ hk_=>⟨hk_.1.1,hk_.1.2.1,hk_.1.2.2.1,hk_.1.2.2.2⟩));replace HO_y6:=aM (Kd.R_mono (ok':=fun k_=>some k_ ≠ (.slice Aoz7 t123.length coz7:Value).ownBlock∧some k_ ≠ (.slice Aoz13 t145.length coz13:Value).ownBlock∧some k_ ≠ (.slice Aoz14 t150.length coz14:Value).ownBlock) (Kd.R_keptB (HO_y6.out) hkp (fun k_ hk_ hs_=>(hk_.2.2) hs_)) (fun k_ hk_=>⟨hk_.1.1,hk_.1.2.1,hk_.1.2.2⟩));replace HO_y7:=aM (Kd.R_mono (ok':=fun k_=>some k_ ≠ (.slice Aoz7 t123.length coz7:Value).ownBlock∧some k_ ≠ (.slice Aoz12 t142.length coz12:Value).ownBlock∧some k_ ≠ (.slice Aoz14 t150.length coz14:Value).ownBlock) (Kd.R_keptB (HO_y7.out) hkp (fun k_ hk_ hs_=>(hk_.2.2) hs_)) (fun k_ hk_=>⟨hk_.1.1,hk_.1.2.1,hk_.1.2.2⟩));replace BKz1:=aM (blk_kept (bX BKz1.out) hkp (fun hs_=>(fun e_=>(Kd.R_ne HO_y8.out BKz1.out (by decide)) e_) hs_));replace BKz2:=aM (blk_kept (bX BKz2.out) hkp (fun hs_=>(fun e_=>(Kd.R_ne HO_y8.out BKz2.out (by decide)) e_) hs_));replace BKz3:=aM (blk_kept (bX BKz3.out) hkp (fun hs_=>(fun e_=>(Kd.R_ne HO_y8.out BKz3.out (by decide)) e_) hs_));replace BKz4:=aM (blk_kept (bX BKz4.out) hkp (fun hs_=>(fun e_=>(Kd.R_ne HO_y8.out BKz4.out (by decide)) e_) hs_));replace HO_y8:=aM (Kd.R_reok rfl hyv1 (fun k_ e_=>HO_y8.out.1 k_ e_));replace HB:=aM (hb);clear hb hkp hyv1;have hczv3:=cZ2 BKz4.out) | ((with_reducible refine gate_callee (f:=31) rfl ?_);refine goesL_ (some 67) rfl rfl Tryz.func31 (by kernel_rfl) rfl #[.agg #[.slice Aoz14 t181.length coz14,.int .i64 t153],.int .i64 1] rfl (by (try simp only[List.map_toArray,List.map_cons,List.map_nil]);first | done | (rw[show t181.length=t150.length from (Kd.R_reads' HO_y8.out).1.symm]<;>rfl) | rfl | (simp only[List.length_drop,List.length_take];rfl)) ?_;(with_reducible refine(XaH.calls kj69 _ _ t181 t153 1 t182 _ (rw2 (cX (Kd.R_reads' HO_y8.out).2.2) (by rw[show t181.length=t150.length from (Kd.R_reads' HO_y8.out).1.symm];exact(Kd.R_reads' HO_y8.out).2.1)) A106.out).mono ?_);rintro e wv2 ⟨rfl,hb⟩;refine⟨_,rfl,?_⟩;replace HO_y1:=aQ HO_y1 hb;replace HO_y2:=aQ HO_y2 hb;replace HO_y3:=aT HO_y3 hb;replace HO_y4:=aT HO_y4 hb;replace HO_y5:=aT HO_y5 hb;replace HO_y6:=aQ HO_y6 hb;replace HO_y7:=aQ HO_y7 hb;replace HO_y8:=aQ HO_y8 hb;replace BKz1:=aB BKz1 hb;replace BKz2:=aB BKz2 hb;replace BKz3:=aB BKz3 hb;replace BKz4:=aB BKz4 hb;replace HB:=aS HB hb;clear hb))
      go_ret
      exact⟨rE,(hX HB.out)⟩
     revert H;refine eN ?_ ?_<;>intro c115b0 c115b1 H
     ·obtain rfl:=sI H
      have hnbv1:=NBz8.out
      have hncv1:=NBz7.out
      have hnbv2:=NBz10.out
      have hncv2:=NBz9.out
      have hnbv3:=NBz12.out
      have hncv3:=NBz11.out
      have hczv1:=cZ2 BKz4.out
      go_wp2_with (first | (refine goesM 25 64 Tryz.func25 #[.agg #[.slice Aoz14 t150.length coz14,.int .i64 t153],.int .i64 1] ?_;refine(XaG.calls kj69 (fun k_=>some k_=(.slice Aoz14 t150.length coz14:Value).ownBlock) (.slice Aoz14 t150.length coz14) t150 t153 1 t180 t181 w _ (by repeat (first | (with_reducible first | exact HB.out | apply below_alloc | apply pw_below_drewN | apply below_drew1 | refine below_set ?_ GEz1.out | refine below_set ?_ GEz2.out | refine below_set ?_ GEz3.out | refine below_set ?_ GEz4.out) | exact HB.out)) (by exact Kd.R_tight rfl HO_y8.out) A105.out).mono ?_;rintro e wv1 ⟨rfl,hyv1,hb,hkp⟩;refine⟨_,rfl,?_⟩;replace HO_y1:=aM (Kd.R_mono (ok':=fun k_=>some k_ ≠ (.slice Aoz12 t142.length coz12:Value).ownBlock∧some k_ ≠ (.slice Aoz13 t145.length coz13:Value).ownBlock∧some k_ ≠ (.slice Aoz14 t150.length coz14:Value).ownBlock) (Kd.R_keptB (HO_y1.out) hkp (fun k_ hk_ hs_=>(hk_.2.2) hs_)) (fun k_ hk_=>⟨hk_.1.1,hk_.1.2.1,hk_.1.2.2⟩));replace HO_y2:=aM (Kd.R_mono (ok':=fun k_=>True) (Kd.R_keptB ((Kd.R_apart' HO_y2.out (Kd.R_typed HO_y8.out) (by decide))) hkp (fun k_ hk_ hs_=>(hk_.2) hs_)) (fun k_ hk_=>trivial));replace HO_y3:=aM (Kd.S_mono (ok':=fun k_=>some k_ ≠ (.slice Aoz7 t123.length coz7:Value).ownBlock∧some k_ ≠ (.slice Aoz12 t142.length coz12:Value).ownBlock∧some k_ ≠ (.slice Aoz13 t145.length coz13:Value).ownBlock∧some k_ ≠ (.slice Aoz14 t150.length coz14:Value).ownBlock) (Kd.S_keptB (HO_y3.out) hkp (fun k_ hk_ hs_=>(hk_.2.2.2) hs_)) (fun k_ hk_=>⟨hk_.1.1,hk_.1.2.1,hk_.1.2.2.1,hk_.1.2.2.2⟩));replace HO_y4:=aM (Kd.S_mono (ok':=fun k_=>True) (Kd.S_keptB ((Kd.S_apart' HO_y4.out (Kd.R_typed HO_y8.out) (by decide))) hkp (fun k_ hk_ hs_=>(hk_.2) hs_)) (fun k_ hk_=>trivial));replace HO_y5:=aM (Kd.S_mono (ok':=fun k_=>some k_ ≠ (.slice Aoz7 t123.length coz7:Value).ownBlock∧some k_ ≠ (.slice Aoz12 t142.length coz12:Value).ownBlock∧some k_ ≠ (.slice Aoz13 t145.length coz13:Value).ownBlock∧some k_ ≠ (.slice Aoz14 t150.length coz14:Value).ownBlock) (Kd.S_keptB (HO_y5.out) hkp (fun k_ hk_ hs_=>(hk_.2.2.2) hs_)) (fun k_ hk_=>⟨hk_.1.1,hk_.1.2.1,hk_.1.2.2.1,hk_.1.2.2.2⟩));replace HO_y6:=aM (Kd.R_mono (ok':=fun k_=>some k_ ≠ (.slice Aoz7 t123.length coz7:Value).ownBlock∧some k_ ≠ (.slice Aoz13 t145.length coz13:Value).ownBlock∧some k_ ≠ (.slice Aoz14 t150.length coz14:Value).ownBlock) (Kd.R_keptB (HO_y6.out) hkp (fun k_ hk_ hs_=>(hk_.2.2) hs_)) (fun k_ hk_=>⟨hk_.1.1,hk_.1.2.1,hk_.1.2.2⟩));replace HO_y7:=aM (Kd.R_mono (ok':=fun k_=>some k_ ≠ (.slice Aoz7 t123.length coz7:Value).ownBlock∧some k_ ≠ (.slice Aoz12 t142.length coz12:Value).ownBlock∧some k_ ≠ (.slice Aoz14 t150.length coz14:Value).ownBlock) (Kd.R_keptB (HO_y7.out) hkp (fun k_ hk_ hs_=>(hk_.2.2) hs_)) (fun k_ hk_=>⟨hk_.1.1,hk_.1.2.1,hk_.1.2.2⟩));replace BKz1:=aM (blk_kept (bX BKz1.out) hkp (fun hs_=>(fun e_=>(Kd.R_ne HO_y8.out BKz1.out (by decide)) e_) hs_));replace BKz2:=aM (blk_kept (bX BKz2.out) hkp (fun hs_=>(fun e_=>(Kd.R_ne HO_y8.out BKz2.out (by decide)) e_) hs_));replace BKz3:=aM (blk_kept (bX BKz3.out) hkp (fun hs_=>(fun e_=>(Kd.R_ne HO_y8.out BKz3.out (by decide)) e_) hs_));replace BKz4:=aM (blk_kept (bX BKz4.out) hkp (fun hs_=>(fun e_=>(Kd.R_ne HO_y8.out BKz4.out (by decide)) e_) hs_));replace HO_y8:=aM (Kd.R_reok rfl hyv1 (fun k_ e_=>HO_y8.out.1 k_ e_));replace HB:=aM (hb);clear hb hkp hyv1;have hczv3:=cZ2 BKz4.out) | ((with_reducible refine gate_callee (f:=31) rfl ?_);refine goesL_ (some 67) rfl rfl Tryz.func31 (by kernel_rfl) rfl #[.agg #[.slice Aoz14 t181.length coz14,.int .i64 t153],.int .i64 1] rfl (by (try simp only[List.map_toArray,List.map_cons,List.map_nil]);first | done | (rw[show t181.length=t150.length from (Kd.R_reads' HO_y8.out).1.symm]<;>rfl) | rfl | (simp only[List.length_drop,List.length_take];rfl)) ?_;(with_reducible refine(XaH.calls kj69 _ _ t181 t153 1 t182 _ (rw2 (cX (Kd.R_reads' HO_y8.out).2.2) (by rw[show t181.length=t150.length from (Kd.R_reads' HO_y8.out).1.symm];exact(Kd.R_reads' HO_y8.out).2.1)) A106.out).mono ?_);rintro e wv2 ⟨rfl,hb⟩;refine⟨_,rfl,?_⟩;replace HO_y1:=aQ HO_y1 hb;replace HO_y2:=aQ HO_y2 hb;replace HO_y3:=aT HO_y3 hb;replace HO_y4:=aT HO_y4 hb;replace HO_y5:=aT HO_y5 hb;replace HO_y6:=aQ HO_y6 hb;replace HO_y7:=aQ HO_y7 hb;replace HO_y8:=aQ HO_y8 hb;replace BKz1:=aB BKz1 hb;replace BKz2:=aB BKz2 hb;replace BKz3:=aB BKz3 hb;replace BKz4:=aB BKz4 hb;replace HB:=aS HB hb;clear hb))
      go_ret
      exact⟨rE,(hX HB.out)⟩
     replace H:=bE H;obtain⟨⟨t183,t186,t189,t192,t193,t196,t199,t202⟩,A116,H⟩:=H
     try dsimp only at H
     replace H:=bE H;obtain⟨⟨t203,t206,t207⟩,A117,H⟩:=H
     try dsimp only at H
     have HC118:=aM H
     clear H
     have hnbv1:=NBz8.out
     have hncv1:=NBz7.out
     have hnbv2:=NBz10.out
     have hncv2:=NBz9.out
     have hnbv3:=NBz12.out
     have hncv3:=NBz11.out
     have hczv1:=cZ2 BKz4.out
     go_upto_region 25 with(first | ((with_reducible refine gate_callee (f:=25) rfl ?_);refine goesM 25 64 Tryz.func25 #[.agg #[.slice Aoz14 t150.length coz14,.int .i64 t153],.int .i64 1] ?_;refine(XaG.calls kj69 (fun k_=>some k_=(.slice Aoz14 t150.length coz14:Value).ownBlock) (.slice Aoz14 t150.length coz14) t150 t153 1 t180 t181 w _ (by repeat (first | (with_reducible first | exact HB.out | apply below_alloc | apply pw_below_drewN | apply below_drew1 | refine below_set ?_ GEz1.out | refine below_set ?_ GEz2.out | refine below_set ?_ GEz3.out | refine below_set ?_ GEz4.out) | exact HB.out)) (by exact Kd.R_tight rfl HO_y8.out) A105.out).mono ?_;rintro e wv1 ⟨rfl,hyv1,hb,hkp⟩;refine⟨_,rfl,?_⟩;replace HO_y1:=aM (Kd.R_mono (ok':=fun k_=>some k_ ≠ (.slice Aoz12 t142.length coz12:Value).ownBlock∧some k_ ≠ (.slice Aoz13 t145.length coz13:Value).ownBlock∧some k_ ≠ (.slice Aoz14 t150.length coz14:Value).ownBlock) (Kd.R_keptB (HO_y1.out) hkp (fun k_ hk_ hs_=>(hk_.2.2) hs_)) (fun k_ hk_=>⟨hk_.1.1,hk_.1.2.1,hk_.1.2.2⟩));replace HO_y2:=aM (Kd.R_mono (ok':=fun k_=>True) (Kd.R_keptB ((Kd.R_apart' HO_y2.out (Kd.R_typed HO_y8.out) (by decide))) hkp (fun k_ hk_ hs_=>(hk_.2) hs_)) (fun k_ hk_=>trivial));replace HO_y3:=aM (Kd.S_mono (ok':=fun k_=>some k_ ≠ (.slice Aoz7 t123.length coz7:Value).ownBlock∧some k_ ≠ (.slice Aoz12 t142.length coz12:Value).ownBlock∧some k_ ≠ (.slice Aoz13 t145.length coz13:Value).ownBlock∧some k_ ≠ (.slice Aoz14 t150.length coz14:Value).ownBlock) (Kd.S_keptB (HO_y3.out) hkp (fun k_ hk_ hs_=>(hk_.2.2.2) hs_)) (fun k_ hk_=>⟨hk_.1.1,hk_.1.2.1,hk_.1.2.2.1,hk_.1.2.2.2⟩));replace HO_y4:=aM (Kd.S_mono (ok':=fun k_=>True) (Kd.S_keptB ((Kd.S_apart' HO_y4.out (Kd.R_typed HO_y8.out) (by decide))) hkp (fun k_ hk_ hs_=>(hk_.2) hs_)) (fun k_ hk_=>trivial));replace HO_y5:=aM (Kd.S_mono (ok':=fun k_=>some k_ ≠ (.slice Aoz7 t123.length coz7:Value).ownBlock∧some k_ ≠ (.slice Aoz12 t142.length coz12:Value).ownBlock∧some k_ ≠ (.slice Aoz13 t145.length coz13:Value).ownBlock∧some k_ ≠ (.slice Aoz14 t150.length coz14:Value).ownBlock) (Kd.S_keptB (HO_y5.out) hkp (fun k_ hk_ hs_=>(hk_.2.2.2) hs_)) (fun k_ hk_=>⟨hk_.1.1,hk_.1.2.1,hk_.1.2.2.1,hk_.1.2.2.2⟩));replace HO_y6:=aM (Kd.R_mono (ok':=fun k_=>some k_ ≠ (.slice Aoz7 t123.length coz7:Value).ownBlock∧some k_ ≠ (.slice Aoz13 t145.length coz13:Value).ownBlock∧some k_ ≠ (.slice Aoz14 t150.length coz14:Value).ownBlock) (Kd.R_keptB (HO_y6.out) hkp (fun k_ hk_ hs_=>(hk_.2.2) hs_)) (fun k_ hk_=>⟨hk_.1.1,hk_.1.2.1,hk_.1.2.2⟩));replace HO_y7:=aM (Kd.R_mono (ok':=fun k_=>some k_ ≠ (.slice Aoz7 t123.length coz7:Value).ownBlock∧some k_ ≠ (.slice Aoz12 t142.length coz12:Value).ownBlock∧some k_ ≠ (.slice Aoz14 t150.length coz14:Value).ownBlock) (Kd.R_keptB (HO_y7.out) hkp (fun k_ hk_ hs_=>(hk_.2.2) hs_)) (fun k_ hk_=>⟨hk_.1.1,hk_.1.2.1,hk_.1.2.2⟩));replace BKz1:=aM (blk_kept (bX BKz1.out) hkp (fun hs_=>(fun e_=>(Kd.R_ne HO_y8.out BKz1.out (by decide)) e_) hs_));replace BKz2:=aM (blk_kept (bX BKz2.out) hkp (fun hs_=>(fun e_=>(Kd.R_ne HO_y8.out BKz2.out (by decide)) e_) hs_));replace BKz3:=aM (blk_kept (bX BKz3.out) hkp (fun hs_=>(fun e_=>(Kd.R_ne HO_y8.out BKz3.out (by decide)) e_) hs_));replace BKz4:=aM (blk_kept (bX BKz4.out) hkp (fun hs_=>(fun e_=>(Kd.R_ne HO_y8.out BKz4.out (by decide)) e_) hs_));replace HO_y8:=aM (Kd.R_reok rfl hyv1 (fun k_ e_=>HO_y8.out.1 k_ e_));replace HB:=aM (hb);clear hb hkp hyv1;have hczv3:=cZ2 BKz4.out) | ((with_reducible refine gate_callee (f:=31) rfl ?_);refine goesL_ (some 67) rfl rfl Tryz.func31 (by kernel_rfl) rfl #[.agg #[.slice Aoz14 t181.length coz14,.int .i64 t153],.int .i64 1] rfl (by (try simp only[List.map_toArray,List.map_cons,List.map_nil]);first | done | (rw[show t181.length=t150.length from (Kd.R_reads' HO_y8.out).1.symm]<;>rfl) | rfl | (simp only[List.length_drop,List.length_take];rfl)) ?_;(with_reducible refine(XaH.calls kj69 _ _ t181 t153 1 t182 _ (rw2 (cX (Kd.R_reads' HO_y8.out).2.2) (by rw[show t181.length=t150.length from (Kd.R_reads' HO_y8.out).1.symm];exact(Kd.R_reads' HO_y8.out).2.1)) A106.out).mono ?_);rintro e wv2 ⟨rfl,hb⟩;refine⟨_,rfl,?_⟩;replace HO_y1:=aQ HO_y1 hb;replace HO_y2:=aQ HO_y2 hb;replace HO_y3:=aT HO_y3 hb;replace HO_y4:=aT HO_y4 hb;replace HO_y5:=aT HO_y5 hb;replace HO_y6:=aQ HO_y6 hb;replace HO_y7:=aQ HO_y7 hb;replace HO_y8:=aQ HO_y8 hb;replace BKz1:=aB BKz1 hb;replace BKz2:=aB BKz2 hb;replace BKz3:=aB BKz3 hb;replace BKz4:=aB BKz4 hb;replace HB:=aS HB hb;clear hb;have hnbv4:=nB NBz1 NBz2;have hnbv5:=nB NBz3 NBz4;have hczv5:=cZ8 BKz1.out) | ((with_reducible refine gate_callee (f:=12) rfl ?_);refine goesM 12 75 Tryz.func12 #[.agg #[.slice A0_0 l0_0.length c0_0,.slice A0_1 l0_1.length c0_1,.slice A0_2 l0_2.length c0_2,.int .i64 a0_3,.slice A0_4 l0_4.length c0_4,.slice A0_5 l0_5.length c0_5,.slice A0_6 l0_6.length c0_6,.int .i64 a0_7]] ?_;refine(XU.calls _ _ _ _ _ _ _ _ _ _ _ _ _ _ _ _ _ _ _ _ _ _ _ _ _ _ _ _ _ _ (rW HR0_0 HB HC0_0) (rW HR0_1 HB HC0_1) (rW HR0_2 HB HC0_2) (rW HR0_4 HB HC0_4) (rW HR0_5 HB HC0_5) (rW HR0_6 HB HC0_6) A116.out).mono ?_;rintro e wv3 ⟨vv1,vv2,vv3,vv4,vv5,vv6,rfl,hoz1,hoz2,hoz3,hoz4,hoz5,hoz6,hb⟩;refine⟨_,rfl,?_⟩;have HOv1:=aM (Kd.R_lower (Kd.R_new' hoz1 (Kd.R_lt (rX HO_y2.out))) (below_size (hX HB.out)));have HOv2:=aM (Kd.S_lower (Kd.S_new' (Kd.S_new' (Kd.S_new' (Kd.S_new' (Kd.S_new' hoz2 (Kd.R_lt (rX HO_y1.out))) (Kd.S_lt (sX HO_y3.out))) (Kd.R_lt (rX HO_y6.out))) (Kd.R_lt (rX HO_y7.out))) (Kd.R_lt (rX HO_y8.out))) (below_size (hX HB.out)));have HOv3:=aM (Kd.S_lower (Kd.S_new' hoz3 (Kd.S_lt (sX HO_y4.out))) (below_size (hX HB.out)));have HOv4:=aM (Kd.S_lower (Kd.S_new' (Kd.S_new' (Kd.S_new' (Kd.S_new' (Kd.S_new' hoz4 (Kd.R_lt (rX HO_y1.out))) (Kd.S_lt (sX HO_y5.out))) (Kd.R_lt (rX HO_y6.out))) (Kd.R_lt (rX HO_y7.out))) (Kd.R_lt (rX HO_y8.out))) (below_size (hX HB.out)));have HOv5:=aM (Kd.R_lower (Kd.R_new' (Kd.R_new' (Kd.R_new' (Kd.R_new' hoz5 (Kd.R_lt (rX HO_y1.out))) (Kd.R_lt (rX HO_y6.out))) (Kd.R_lt (rX HO_y7.out))) (Kd.R_lt (rX HO_y8.out))) (below_size (hX HB.out)));have HOv6:=aM (Kd.R_lower (Kd.R_new' (Kd.R_new' (Kd.R_new' (Kd.R_new' hoz6 (Kd.R_lt (rX HO_y1.out))) (Kd.R_lt (rX HO_y6.out))) (Kd.R_lt (rX HO_y7.out))) (Kd.R_lt (rX HO_y8.out))) (below_size (hX HB.out)));replace HO_y1:=aM (Kd.R_mono (Kd.R_told (Kd.R_told (Kd.R_old (rX HO_y1.out) hb) (Kd.R_base hoz5)) (Kd.R_base hoz6)) (fun _ h_=>h_.1));replace HO_y2:=aM (Kd.R_elder' (rX HO_y2.out) (Kd.R_base hoz1) hb);replace HO_y3:=aM (Kd.S_mono (Kd.S_told (Kd.S_told (Kd.S_told (Kd.S_old (sX HO_y3.out) hb) (Kd.S_base hoz2)) (Kd.R_base hoz5)) (Kd.R_base hoz6)) (fun _ h_=>h_.1));replace HO_y4:=aM (Kd.S_elder' (sX HO_y4.out) (Kd.S_base hoz3) hb);replace HO_y5:=aM (Kd.S_mono (Kd.S_told (Kd.S_told (Kd.S_told (Kd.S_old (sX HO_y5.out) hb) (Kd.S_base hoz4)) (Kd.R_base hoz5)) (Kd.R_base hoz6)) (fun _ h_=>h_.1));replace HO_y6:=aM (Kd.R_mono (Kd.R_told (Kd.R_told (Kd.R_old (rX HO_y6.out) hb) (Kd.R_base hoz5)) (Kd.R_base hoz6)) (fun _ h_=>h_.1));replace HO_y7:=aM (Kd.R_mono (Kd.R_told (Kd.R_told (Kd.R_old (rX HO_y7.out) hb) (Kd.R_base hoz5)) (Kd.R_base hoz6)) (fun _ h_=>h_.1));replace HO_y8:=aM (Kd.R_mono (Kd.R_told (Kd.R_told (Kd.R_old (rX HO_y8.out) hb) (Kd.R_base hoz5)) (Kd.R_base hoz6)) (fun _ h_=>h_.1));replace BKz1:=aB BKz1 hb;replace BKz2:=aB BKz2 hb;replace BKz3:=aB BKz3 hb;replace BKz4:=aB BKz4 hb;replace HB:=aS HB hb;clear hb hoz1 hoz2 hoz3 hoz4 hoz5 hoz6;obtain⟨Aov1,cov1,eov1⟩:=Kd.R_slice HOv1.out;subst eov1;obtain⟨Aov2,cov2,eov2⟩:=Kd.S_slice HOv2.out;subst eov2;obtain⟨Aov3,cov3,eov3⟩:=Kd.S_slice HOv3.out;subst eov3;obtain⟨Aov4,cov4,eov4⟩:=Kd.S_slice HOv4.out;subst eov4;obtain⟨Aov5,cov5,eov5⟩:=Kd.R_slice HOv5.out;subst eov5;obtain⟨Aov6,cov6,eov6⟩:=Kd.R_slice HOv6.out;subst eov6) | ((with_reducible refine gate_callee (f:=30) rfl ?_);refine goesM 30 76 Tryz.func30 #[.agg #[.slice Aov1 t183.length cov1,.slice Aov2 t186.length cov2,.slice Aov3 t189.length cov3,.int .i64 t192,.slice Aov4 t193.length cov4,.slice Aov5 t196.length cov5,.slice Aov6 t199.length cov6,.int .i64 t202]] ?_;refine(X3.calls _ _ _ _ _ _ _ _ _ _ _ _ _ _ _ _ _ _ _ _ _ _ _ _ _ (rw2 (cX (Kd.R_reads' HOv1.out).2.2) ((Kd.R_reads' HOv1.out).2.1)) (rw2 (cX (Kd.S_reads' HOv2.out).2.2) ((Kd.S_reads' HOv2.out).2.1)) (rw2 (cX (Kd.S_reads' HOv3.out).2.2) ((Kd.S_reads' HOv3.out).2.1)) (rw2 (cX (Kd.S_reads' HOv4.out).2.2) ((Kd.S_reads' HOv4.out).2.1)) (rw2 (cX (Kd.R_reads' HOv5.out).2.2) ((Kd.R_reads' HOv5.out).2.1)) (rw2 (cX (Kd.R_reads' HOv6.out).2.2) ((Kd.R_reads' HOv6.out).2.1)) A117.out).mono ?_;rintro e wv4 ⟨vv7,rfl,hoz1,hb⟩;refine⟨_,rfl,?_⟩;have HOv7:=aM (Kd.R_lower (Kd.R_new' (Kd.R_new' (Kd.R_new' (Kd.R_new' (Kd.R_new' (Kd.R_new' hoz1 (Kd.R_lt (rX HO_y1.out))) (Kd.R_lt (rX HO_y6.out))) (Kd.R_lt (rX HO_y7.out))) (Kd.R_lt (rX HO_y8.out))) (Kd.R_lt (rX HOv5.out))) (Kd.R_lt (rX HOv6.out))) (below_size (hX HB.out)));replace HO_y1:=aM (Kd.R_elder' (rX HO_y1.out) (Kd.R_base hoz1) hb);replace HO_y2:=aQ HO_y2 hb;replace HO_y3:=aM (Kd.S_elder' (sX HO_y3.out) (Kd.R_base hoz1) hb);replace HO_y4:=aT HO_y4 hb;replace HO_y5:=aM (Kd.S_elder' (sX HO_y5.out) (Kd.R_base hoz1) hb);replace HO_y6:=aM (Kd.R_elder' (rX HO_y6.out) (Kd.R_base hoz1) hb);replace HO_y7:=aM (Kd.R_elder' (rX HO_y7.out) (Kd.R_base hoz1) hb);replace HO_y8:=aM (Kd.R_elder' (rX HO_y8.out) (Kd.R_base hoz1) hb);replace HOv1:=aQ HOv1 hb;replace HOv2:=aM (Kd.S_elder' (sX HOv2.out) (Kd.R_base hoz1) hb);replace HOv3:=aT HOv3 hb;replace HOv4:=aM (Kd.S_elder' (sX HOv4.out) (Kd.R_base hoz1) hb);replace HOv5:=aM (Kd.R_elder' (rX HOv5.out) (Kd.R_base hoz1) hb);replace HOv6:=aM (Kd.R_elder' (rX HOv6.out) (Kd.R_base hoz1) hb);replace BKz1:=aB BKz1 hb;replace BKz2:=aB BKz2 hb;replace BKz3:=aB BKz3 hb;replace BKz4:=aB BKz4 hb;replace HB:=aS HB hb;clear hb hoz1) | ((with_reducible refine gate_dst (N:=12) rfl ?_);refine boxE 12 #[.slice none 0 0,.int .i64 0] 41 ?_;intro gbv1 hg wv5 hbox hb;have BKv1:=aM (hbox);have GWv1:=aG hg HB;have NBv1:=aL hg BKz1;have NBv2:=aR hg BKz1;have NBv3:=aL hg BKz2;have NBv4:=aR hg BKz2;have NBv5:=aL hg BKz3;have NBv6:=aR hg BKz3;have NBv7:=aL hg BKz4;have NBv8:=aR hg BKz4;replace HO_y1:=aQ HO_y1 hb;replace HO_y2:=aQ HO_y2 hb;replace HO_y3:=aT HO_y3 hb;replace HO_y4:=aT HO_y4 hb;replace HO_y5:=aT HO_y5 hb;replace HO_y6:=aQ HO_y6 hb;replace HO_y7:=aQ HO_y7 hb;replace HO_y8:=aQ HO_y8 hb;replace HOv1:=aQ HOv1 hb;replace HOv2:=aT HOv2 hb;replace HOv3:=aT HOv3 hb;replace HOv4:=aT HOv4 hb;replace HOv5:=aQ HOv5 hb;replace HOv6:=aQ HOv6 hb;replace HOv7:=aQ HOv7 hb;replace BKz1:=aB BKz1 hb;replace BKz2:=aB BKz2 hb;replace BKz3:=aB BKz3 hb;replace BKz4:=aB BKz4 hb;replace HB:=aS HB hb;clear hb hbox hg;obtain⟨Aov7,cov7,eov7⟩:=Kd.R_slice HOv7.out;subst eov7;have hnbv6:=nB NBv2 NBv1;have hnbv7:=nB NBv4 NBv3;have hnbv8:=nB NBv6 NBv5;have hnbv9:=nB NBv8 NBv7;have hczv13:=cZ2 BKv1.out))
     (try simp only[Act.put,List.setIfInBounds_toArray,List.set_cons_zero,List.set_cons_succ])
     go_cut [87] (fun vv8 wc=>∃ (kq:Nat) (x87_117:Bool),vv8 = .bool x87_117∧Aside0 (Xk.j2 kq t180 x87_117 t181 t153=some r)∧Aside0 (kq≤kj69)∧Aside0 (Kd.R (Kd.int .i64) 3 wc w.heap.size (fun k_=>some k_ ≠ ((.slice Aoz12 t142.length coz12):Value).ownBlock∧some k_ ≠ ((.slice Aoz13 t145.length coz13):Value).ownBlock∧some k_ ≠ ((.slice Aoz14 t150.length coz14):Value).ownBlock∧some k_ ≠ ((.slice Aov7 t203.length cov7):Value).ownBlock) (.slice Aoz7 t123.length coz7) t123)∧Aside0 (Kd.R k140 140 wc w.heap.size (fun _=>True) (.slice Aoz8 t129.length coz8) q129)∧Aside0 (Kd.S k162 162 wc w.heap.size (fun k_=>some k_ ≠ ((.slice Aoz7 t123.length coz7):Value).ownBlock∧some k_ ≠ ((.slice Aoz12 t142.length coz12):Value).ownBlock∧some k_ ≠ ((.slice Aoz13 t145.length coz13):Value).ownBlock∧some k_ ≠ ((.slice Aoz14 t150.length coz14):Value).ownBlock∧some k_ ≠ ((.slice Aov7 t203.length cov7):Value).ownBlock) (.slice Aoz9 t132.length coz9) q132)∧Aside0 (Kd.S k97 97 wc w.heap.size (fun _=>True) (.slice Aoz10 t135.length coz10) q135)∧Aside0 (Kd.S k73 73 wc w.heap.size (fun k_=>some k_ ≠ ((.slice Aoz7 t123.length coz7):Value).ownBlock∧some k_ ≠ ((.slice Aoz12 t142.length coz12):Value).ownBlock∧some k_ ≠ ((.slice Aoz13 t145.length coz13):Value).ownBlock∧some k_ ≠ ((.slice Aoz14 t150.length coz14):Value).ownBlock∧some k_ ≠ ((.slice Aov7 t203.length cov7):Value).ownBlock) (.slice Aoz11 t139.length coz11) q139)∧Aside0 (Kd.R (Kd.int .i64) 3 wc w.heap.size (fun k_=>some k_ ≠ ((.slice Aoz7 t123.length coz7):Value).ownBlock∧some k_ ≠ ((.slice Aoz13 t145.length coz13):Value).ownBlock∧some k_ ≠ ((.slice Aoz14 t150.length coz14):Value).ownBlock∧some k_ ≠ ((.slice Aov7 t203.length cov7):Value).ownBlock) (.slice Aoz12 t142.length coz12) q142)∧Aside0 (Kd.R (Kd.int .i64) 3 wc w.heap.size (fun k_=>some k_ ≠ ((.slice Aoz7 t123.length coz7):Value).ownBlock∧some k_ ≠ ((.slice Aoz12 t142.length coz12):Value).ownBlock∧some k_ ≠ ((.slice Aoz14 t150.length coz14):Value).ownBlock∧some k_ ≠ ((.slice Aov7 t203.length cov7):Value).ownBlock) (.slice Aoz13 t145.length coz13) q145)∧Aside0 (Kd.R (Kd.int .i64) 3 wc w.heap.size (fun k_=>some k_ ≠ ((.slice Aoz7 t123.length coz7):Value).ownBlock∧some k_ ≠ ((.slice Aoz12 t142.length coz12):Value).ownBlock∧some k_ ≠ ((.slice Aoz13 t145.length coz13):Value).ownBlock∧some k_ ≠ ((.slice Aov7 t203.length cov7):Value).ownBlock) (.slice Aoz14 t150.length coz14) t181)∧Aside0 (Kd.R (Kd.int .i64) 3 wc w.heap.size (fun k_=>some k_ ≠ ((.slice Aoz7 t123.length coz7):Value).ownBlock∧some k_ ≠ ((.slice Aoz12 t142.length coz12):Value).ownBlock∧some k_ ≠ ((.slice Aoz13 t145.length coz13):Value).ownBlock∧some k_ ≠ ((.slice Aoz14 t150.length coz14):Value).ownBlock) (.slice Aov7 t203.length cov7) t203)∧Aside0 (wc.heap[gbz1]? = some (.cells #[(.slice A0_0 l0_0.length c0_0),(.slice A0_1 l0_1.length c0_1),(.slice A0_2 l0_2.length c0_2),.int .i64 a0_3,(.slice A0_4 l0_4.length c0_4),(.slice A0_5 l0_5.length c0_5),(.slice A0_6 l0_6.length c0_6),.int .i64 a0_7] 32 (0,0)))∧Aside0 (wc.heap[gbz2]? = some (.cells #[(.slice Aoz7 t123.length coz7),.int .i64 t126] 41 (0,0)))∧Aside0 (wc.heap[gbz3]? = some (.cells #[(.slice Aoz8 t129.length coz8),(.slice Aoz9 t132.length coz9),(.slice Aoz10 t135.length coz10),.int .i64 t138,(.slice Aoz11 t139.length coz11),(.slice Aoz12 t142.length coz12),(.slice Aoz13 t145.length coz13),.int .i64 t148] 43 (0,0)))∧Aside0 (wc.heap[gbz4]? = some (.cells #[(.slice Aoz14 t150.length coz14),.int .i64 t153] 41 (0,0)))∧Aside0 (wc.heap[gbv1]? = some (.cells #[(.slice Aov7 t203.length cov7),.int .i64 t206] 41 (0,0)))∧Aside0 (Below w.heap.size w wc))
     case first =>
      have H:=HC118.out
      clear HC118
      replace H:=bE H;obtain⟨t209,A144,H⟩:=H
      cases t209
      case true =>
       rw[if_pos rfl] at H
       have H':=aM H
       clear H
       have hnbu1:=NBv2.out
       have hncu1:=NBv1.out
       have hnbu2:=NBv4.out
       have hncu2:=NBv3.out
       have hnbu3:=NBv6.out
       have hncu3:=NBv5.out
       have hnbu4:=NBv8.out
       have hncu4:=NBv7.out
       have hczu1:=cZ2 BKv1.out
       have hnbu5:=NBz2.out
       have hncu5:=NBz1.out
       have hnbu6:=NBz5.out
       have hncu6:=NBz6.out
       have hnbu7:=NBz9.out
       have hncu7:=NBz10.out
       have hczu3:=cZ2 BKz2.out
       go_wp2_with ((with_reducible refine gate_callee (f:=23) rfl ?_);refine gB 23 81 Tryz.func23 (Xaf.calls _ _ _ _ _ _ _ _ _ _ _ (rw2 (rR HOv7.out BKv1.out) ((Kd.R_reads' HOv7.out).2.1)) (rw2 (rR HO_y1.out BKv1.out) ((Kd.R_reads' HO_y1.out).2.1)) A144.out) ?_;intro wu1 hb;replace HO_y1:=aM (Kd.R_below (rF HO_y1.out BKv1.out) hb);replace HO_y2:=aM (Kd.R_below (rF HO_y2.out BKv1.out) hb);replace HO_y3:=aM (Kd.S_below (sF HO_y3.out BKv1.out) hb);replace HO_y4:=aM (Kd.S_below (sF HO_y4.out BKv1.out) hb);replace HO_y5:=aM (Kd.S_below (sF HO_y5.out BKv1.out) hb);replace HO_y6:=aM (Kd.R_below (rF HO_y6.out BKv1.out) hb);replace HO_y7:=aM (Kd.R_below (rF HO_y7.out BKv1.out) hb);replace HO_y8:=aM (Kd.R_below (rF HO_y8.out BKv1.out) hb);replace HOv1:=aM (Kd.R_below (rF HOv1.out BKv1.out) hb);replace HOv2:=aM (Kd.S_below (sF HOv2.out BKv1.out) hb);replace HOv3:=aM (Kd.S_below (sF HOv3.out BKv1.out) hb);replace HOv4:=aM (Kd.S_below (sF HOv4.out BKv1.out) hb);replace HOv5:=aM (Kd.R_below (rF HOv5.out BKv1.out) hb);replace HOv6:=aM (Kd.R_below (rF HOv6.out BKv1.out) hb);replace HOv7:=aM (Kd.R_below (rF HOv7.out BKv1.out) hb);replace BKz1:=aF BKz1 hb;replace BKz2:=aF BKz2 hb;replace BKz3:=aF BKz3 hb;replace BKz4:=aF BKz4 hb;replace BKv1:=aM (blk_below (g:=gbv1) (o:=.cells #[.slice Aov7 t203.length cov7,.int .i64 t206] 41 (0,0)) (bP BKv1.out) hb);replace HB:=aS HB hb;clear hb)
       go_meet
       case rel=>exact⟨_,((t207 != t127)),rS,H',⟨by have:=HJy1.out;have:=HJw1.out;first | omega | exact Nat.le_refl _⟩,⟨(rT (h:=by exact Kd.R_mono HO_y1.out (fun _ hk=>⟨hk.1.1.1.1,⟨hk.1.1.1.2.1,⟨hk.1.1.1.2.2,hk.2⟩⟩⟩)))⟩,⟨(rT (h:=by exact Kd.R_mono HO_y2.out (fun _ hk=>trivial)))⟩,⟨by (with_reducible repeat (first | apply Kd.S_alloc | apply Kd.S_drewN | apply Kd.S_drew));exact Kd.S_mono HO_y3.out (fun _ hk=>⟨hk.1.1.1.1.1,⟨hk.1.1.1.1.2.1,⟨hk.1.1.1.1.2.2.1,⟨hk.1.1.1.1.2.2.2,hk.2⟩⟩⟩⟩)⟩,⟨by (with_reducible repeat (first | apply Kd.S_alloc | apply Kd.S_drewN | apply Kd.S_drew));exact Kd.S_mono HO_y4.out (fun _ hk=>trivial)⟩,⟨by (with_reducible repeat (first | apply Kd.S_alloc | apply Kd.S_drewN | apply Kd.S_drew));exact Kd.S_mono HO_y5.out (fun _ hk=>⟨hk.1.1.1.1.1,⟨hk.1.1.1.1.2.1,⟨hk.1.1.1.1.2.2.1,⟨hk.1.1.1.1.2.2.2,hk.2⟩⟩⟩⟩)⟩,⟨(rT (h:=by exact Kd.R_mono HO_y6.out (fun _ hk=>⟨hk.1.1.1.1,⟨hk.1.1.1.2.1,⟨hk.1.1.1.2.2,hk.2⟩⟩⟩)))⟩,⟨(rT (h:=by exact Kd.R_mono HO_y7.out (fun _ hk=>⟨hk.1.1.1.1,⟨hk.1.1.1.2.1,⟨hk.1.1.1.2.2,hk.2⟩⟩⟩)))⟩,⟨(rT (h:=by exact Kd.R_mono HO_y8.out (fun _ hk=>⟨hk.1.1.1.1,⟨hk.1.1.1.2.1,⟨hk.1.1.1.2.2,hk.2⟩⟩⟩)))⟩,⟨(rT (h:=by exact Kd.R_mono HOv7.out (fun _ hk=>⟨hk.1.1.1.1.1.2,⟨hk.1.1.1.1.2,⟨hk.1.1.1.2,hk.1.1.2⟩⟩⟩)))⟩,⟨(bX BKz1.out)⟩,⟨(bX BKz2.out)⟩,⟨(bX BKz3.out)⟩,⟨(bX BKz4.out)⟩,⟨(bX BKv1.out)⟩,⟨(hX HB.out)⟩⟩
      rw[if_neg nft] at H
      have H':=aM H
      clear H
      have hnbu1:=NBv2.out
      have hncu1:=NBv1.out
      have hnbu2:=NBv4.out
      have hncu2:=NBv3.out
      have hnbu3:=NBv6.out
      have hncu3:=NBv5.out
      have hnbu4:=NBv8.out
      have hncu4:=NBv7.out
      have hczu1:=cZ2 BKv1.out
      have hnbu5:=NBz2.out
      have hncu5:=NBz1.out
      have hnbu6:=NBz5.out
      have hncu6:=NBz6.out
      have hnbu7:=NBz9.out
      have hncu7:=NBz10.out
      have hczu3:=cZ2 BKz2.out
      go_wp2_with ((with_reducible refine gate_callee (f:=23) rfl ?_);refine gB 23 81 Tryz.func23 (Xaf.calls _ _ _ _ _ _ _ _ _ _ _ (rw2 (rR HOv7.out BKv1.out) ((Kd.R_reads' HOv7.out).2.1)) (rw2 (rR HO_y1.out BKv1.out) ((Kd.R_reads' HO_y1.out).2.1)) A144.out) ?_;intro wu1 hb;replace HO_y1:=aM (Kd.R_below (rF HO_y1.out BKv1.out) hb);replace HO_y2:=aM (Kd.R_below (rF HO_y2.out BKv1.out) hb);replace HO_y3:=aM (Kd.S_below (sF HO_y3.out BKv1.out) hb);replace HO_y4:=aM (Kd.S_below (sF HO_y4.out BKv1.out) hb);replace HO_y5:=aM (Kd.S_below (sF HO_y5.out BKv1.out) hb);replace HO_y6:=aM (Kd.R_below (rF HO_y6.out BKv1.out) hb);replace HO_y7:=aM (Kd.R_below (rF HO_y7.out BKv1.out) hb);replace HO_y8:=aM (Kd.R_below (rF HO_y8.out BKv1.out) hb);replace HOv1:=aM (Kd.R_below (rF HOv1.out BKv1.out) hb);replace HOv2:=aM (Kd.S_below (sF HOv2.out BKv1.out) hb);replace HOv3:=aM (Kd.S_below (sF HOv3.out BKv1.out) hb);replace HOv4:=aM (Kd.S_below (sF HOv4.out BKv1.out) hb);replace HOv5:=aM (Kd.R_below (rF HOv5.out BKv1.out) hb);replace HOv6:=aM (Kd.R_below (rF HOv6.out BKv1.out) hb);replace HOv7:=aM (Kd.R_below (rF HOv7.out BKv1.out) hb);replace BKz1:=aF BKz1 hb;replace BKz2:=aF BKz2 hb;replace BKz3:=aF BKz3 hb;replace BKz4:=aF BKz4 hb;replace BKv1:=aM (blk_below (g:=gbv1) (o:=.cells #[.slice Aov7 t203.length cov7,.int .i64 t206] 41 (0,0)) (bP BKv1.out) hb);replace HB:=aS HB hb;clear hb)
      go_meet
      case rel=>exact⟨_,(true),rS,H',⟨by have:=HJy1.out;have:=HJw1.out;first | omega | exact Nat.le_refl _⟩,⟨(rT (h:=by exact Kd.R_mono HO_y1.out (fun _ hk=>⟨hk.1.1.1.1,⟨hk.1.1.1.2.1,⟨hk.1.1.1.2.2,hk.2⟩⟩⟩)))⟩,⟨(rT (h:=by exact Kd.R_mono HO_y2.out (fun _ hk=>trivial)))⟩,⟨by (with_reducible repeat (first | apply Kd.S_alloc | apply Kd.S_drewN | apply Kd.S_drew));exact Kd.S_mono HO_y3.out (fun _ hk=>⟨hk.1.1.1.1.1,⟨hk.1.1.1.1.2.1,⟨hk.1.1.1.1.2.2.1,⟨hk.1.1.1.1.2.2.2,hk.2⟩⟩⟩⟩)⟩,⟨by (with_reducible repeat (first | apply Kd.S_alloc | apply Kd.S_drewN | apply Kd.S_drew));exact Kd.S_mono HO_y4.out (fun _ hk=>trivial)⟩,⟨by (with_reducible repeat (first | apply Kd.S_alloc | apply Kd.S_drewN | apply Kd.S_drew));exact Kd.S_mono HO_y5.out (fun _ hk=>⟨hk.1.1.1.1.1,⟨hk.1.1.1.1.2.1,⟨hk.1.1.1.1.2.2.1,⟨hk.1.1.1.1.2.2.2,hk.2⟩⟩⟩⟩)⟩,⟨(rT (h:=by exact Kd.R_mono HO_y6.out (fun _ hk=>⟨hk.1.1.1.1,⟨hk.1.1.1.2.1,⟨hk.1.1.1.2.2,hk.2⟩⟩⟩)))⟩,⟨(rT (h:=by exact Kd.R_mono HO_y7.out (fun _ hk=>⟨hk.1.1.1.1,⟨hk.1.1.1.2.1,⟨hk.1.1.1.2.2,hk.2⟩⟩⟩)))⟩,⟨(rT (h:=by exact Kd.R_mono HO_y8.out (fun _ hk=>⟨hk.1.1.1.1,⟨hk.1.1.1.2.1,⟨hk.1.1.1.2.2,hk.2⟩⟩⟩)))⟩,⟨(rT (h:=by exact Kd.R_mono HOv7.out (fun _ hk=>⟨hk.1.1.1.1.1.2,⟨hk.1.1.1.1.2,⟨hk.1.1.1.2,hk.1.1.2⟩⟩⟩)))⟩,⟨(bX BKz1.out)⟩,⟨(bX BKz2.out)⟩,⟨(bX BKz3.out)⟩,⟨(bX BKz4.out)⟩,⟨(bX BKv1.out)⟩,⟨(hX HB.out)⟩⟩
     case rest =>
      clear HC118
      try clear c3b0
      try clear c107b0
      try clear c115b0
      try clear c115b1
      try clear hczv1
      try clear hczv3
      try clear hczv5
      try clear hczz1
      try clear hczv13
      try clear hczz9
      try clear hczz17
      try clear hczz19
      try clear hczz27
      try clear hczz35
      try clear hczx1
      obtain⟨kq,x87_117,rfl,HA,HJu1,HO_y1,HO_y2,HO_y3,HO_y4,HO_y5,HO_y6,HO_y7,HO_y8,HO_u1,BKz1,BKz2,BKz3,BKz4,BKv1,HB⟩:=hcut
      have hlu1:=(Kd.R_reads' HO_y8.out).1
      rw[hlu1] at HO_y8
      (try simp only[hlu1])
      (try simp only[hlu1] at BKz1)
      (try simp only[hlu1] at BKz2)
      (try simp only[hlu1] at BKz3)
      (try simp only[hlu1] at BKz4)
      (try simp only[hlu1] at BKv1)
      (try simp only[hlu1] at HO_y1)
      (try simp only[hlu1] at HO_y2)
      (try simp only[hlu1] at HO_y3)
      (try simp only[hlu1] at HO_y4)
      (try simp only[hlu1] at HO_y5)
      (try simp only[hlu1] at HO_y6)
      (try simp only[hlu1] at HO_y7)
      (try simp only[hlu1] at HO_u1)
      cases kq with
      | zero=>exact absurd HA.out (by simp[Xk.j2])
      | succ kj117 =>
       have H:=HA.out
       clear HA
       simp only[Xk.j2] at H
       cases x87_117
       case true =>
        rw[if_pos rfl] at H
        exact fR
       rw[if_neg nft] at H
       replace H:=bE H;obtain⟨t210,A167,H⟩:=H
       have hnbt1:=nB NBz8 NBz7
       have hnbt2:=nB NBz10 NBz9
       have hnbt3:=nB NBz12 NBz11
       have hnbt4:=nB NBv7 NBv8
       have hczt1:=cZ2 BKz4.out
       go_wp2_with ((with_reducible refine gate_callee (f:=31) rfl ?_);refine gB 31 90 Tryz.func31 (XaH.calls _ _ _ _ _ _ _ _ (rw2 (cX (Kd.R_reads' HO_y8.out).2.2) ((Kd.R_reads' HO_y8.out).2.1)) A167.out) ?_;intro wt1 hb;replace HO_y1:=aQ HO_y1 hb;replace HO_y2:=aQ HO_y2 hb;replace HO_y3:=aT HO_y3 hb;replace HO_y4:=aT HO_y4 hb;replace HO_y5:=aT HO_y5 hb;replace HO_y6:=aQ HO_y6 hb;replace HO_y7:=aQ HO_y7 hb;replace HO_y8:=aQ HO_y8 hb;replace HO_u1:=aQ HO_u1 hb;replace BKz1:=aB BKz1 hb;replace BKz2:=aB BKz2 hb;replace BKz3:=aB BKz3 hb;replace BKz4:=aB BKz4 hb;replace BKv1:=aB BKv1 hb;replace HB:=aS HB hb;clear hb;refine Stop.out ?_)
       refine⟨?_⟩
       revert H;refine iP ?_ ?_<;>intro c168b0 H
       ·obtain rfl:=sI H
        exact fS
       revert H;refine eN ?_ ?_<;>intro c175b0 c175b1 H
       ·obtain rfl:=sI H
        exact fS
       exact fR
end Go.Proofs.YtmljebgideecjaaGreat.P2
