/- A part of the proof of the law FnExactJudgeAll: texts of this seat, merged (words, printed functions of the program, plain lemmas). Conditions: none of its own. -/
import Derived.Test.YtmljebgideecjaaGreatP2kFnExactJudgeAll38
import Derived.Test.YtmljebgideecjaaGreatP2kFnExactJudgeAll39
set_option linter.unusedSimpArgs false
set_option linter.unusedVariables false
set_option maxHeartbeats 8000000
set_option maxRecDepth 100000
namespace Go.Proofs.YtmljebgideecjaaGreat.P2
open Go.Proofs.YtmljebgideecjaaGreatZ Go.RowKit Go.Proofs.YtmljebgideecjaaGreatW.PrintWords Go.Proofs.YtmljebgideecjaaGreatW.PrintLast Go.Proofs.YtmljebgideecjaaGreatW.PrintMore
attribute [local go_sem] max2_int min2_int max_two min_two max_three min_three max_four min_four   -- for this text's walks alone
def XaV.f (k:Nat) (l0_0:List (S140)) (l0_1:List (S162)) (l0_2:List (S97)) (a0_3:Int) (l0_4:List (S73)) (l0_5:List Int) (l0_6:List Int) (a0_7:Int):Option (Bool):=(Xu.f k l0_0 l0_1 l0_2 a0_3 l0_4 l0_5 l0_6 a0_7).bind fun bt102=>(some bt102.2.2)
theorem XaV.calls (k:Nat) (A0_0:Option Addr) (c0_0:Nat) (l0_0:List (S140)) (A0_1:Option Addr) (c0_1:Nat) (l0_1:List (S162)) (A0_2:Option Addr) (c0_2:Nat) (l0_2:List (S97)) (a0_3:Int) (A0_4:Option Addr) (c0_4:Nat) (l0_4:List (S73)) (A0_5:Option Addr) (c0_5:Nat) (l0_5:List Int) (A0_6:Option Addr) (c0_6:Nat) (l0_6:List Int) (a0_7:Int) (r:Bool) (w:World) (h0_0:Rw k140 w A0_0 c0_0 l0_0) (h0_1:Rw k162 w A0_1 c0_1 l0_1) (h0_2:Rw k97 w A0_2 c0_2 l0_2) (h0_4:Rw k73 w A0_4 c0_4 l0_4) (h0_5:Rw (Kd.int .i64) w A0_5 c0_5 l0_5) (h0_6:Rw (Kd.int .i64) w A0_6 c0_6 l0_6) (H:XaV.f k l0_0 l0_1 l0_2 a0_3 l0_4 l0_5 l0_6 a0_7=some r) :
  Calls Tryz.prog 32 #[.agg #[.slice A0_0 l0_0.length c0_0,.slice A0_1 l0_1.length c0_1,.slice A0_2 l0_2.length c0_2,.int .i64 a0_3,.slice A0_4 l0_4.length c0_4,.slice A0_5 l0_5.length c0_5,.slice A0_6 l0_6.length c0_6,.int .i64 a0_7]] w fun e w'=>e = .returned (.bool r)∧Below w.heap.size w w':=by
 have hu43:=Tryz.underlying43
 have hu41:=Tryz.underlying41
 obtain⟨HR0_0,HC0_0⟩:=h0_0
 obtain⟨HR0_1,HC0_1⟩:=h0_1
 obtain⟨HR0_2,HC0_2⟩:=h0_2
 obtain⟨HR0_4,HC0_4⟩:=h0_4
 obtain⟨HR0_5,HC0_5⟩:=h0_5
 obtain⟨HR0_6,HC0_6⟩:=h0_6
 have HB:=aM (Below.refl w.heap.size w)
 unfold XaV.f at H
 replace H:=bE H;obtain⟨⟨t102,t105,t106⟩,A2,H⟩:=H
 try dsimp only at H
 obtain rfl:=sI H
 go_enter Tryz.func32,Tryz.ntmps32
 go_wp2_with (first | (refine boxE 1 #[.slice A0_0 l0_0.length c0_0,.slice A0_1 l0_1.length c0_1,.slice A0_2 l0_2.length c0_2,.int .i64 a0_3,.slice A0_4 l0_4.length c0_4,.slice A0_5 l0_5.length c0_5,.slice A0_6 l0_6.length c0_6,.int .i64 a0_7] 43 ?_;intro gbz1 hg wz1 hbox hb;have BKz1:=aM (hbox);have GWz1:=aG hg HB;replace HB:=aS HB hb;clear hb hbox hg;have hczz1:=cZ8 BKz1.out) | (refine goesM 29 7 Tryz.func29 #[.agg #[.slice A0_0 l0_0.length c0_0,.slice A0_1 l0_1.length c0_1,.slice A0_2 l0_2.length c0_2,.int .i64 a0_3,.slice A0_4 l0_4.length c0_4,.slice A0_5 l0_5.length c0_5,.slice A0_6 l0_6.length c0_6,.int .i64 a0_7]] ?_;refine(Xu.calls _ _ _ _ _ _ _ _ _ _ _ _ _ _ _ _ _ _ _ _ _ _ _ _ _ (rW HR0_0 HB HC0_0) (rW HR0_1 HB HC0_1) (rW HR0_2 HB HC0_2) (rW HR0_4 HB HC0_4) (rW HR0_5 HB HC0_5) (rW HR0_6 HB HC0_6) A2.out).mono ?_;rintro e wz2 ⟨vz1,rfl,hoz1,hb⟩;refine⟨_,rfl,?_⟩;have HOz1:=aM (Kd.R_lower hoz1 (below_size (hX HB.out)));replace BKz1:=aB BKz1 hb;replace HB:=aS HB hb;clear hb hoz1) | (refine boxE 3 #[.slice none 0 0,.int .i64 0] 41 ?_;intro gbz2 hg wz3 hbox hb;have BKz2:=aM (hbox);have GWz2:=aG hg HB;have NBz1:=aL hg BKz1;have NBz2:=aR hg BKz1;replace HOz1:=aQ HOz1 hb;replace BKz1:=aB BKz1 hb;replace HB:=aS HB hb;clear hb hbox hg;obtain⟨Aoz1,coz1,eoz1⟩:=Kd.R_slice HOz1.out;subst eoz1;have hnbz1:=nB NBz2 NBz1;have hczz9:=cZ2 BKz2.out))
 go_ret
 exact⟨rE,(hX HB.out)⟩
def XT.f (k:Nat) (l0_0:List (S140)) (l0_1:List (S162)) (l0_2:List (S97)) (a0_3:Int) (l0_4:List (S73)) (l0_5:List Int) (l0_6:List Int) (a0_7:Int):Option (Bool):=(Xf.f k l0_0 l0_1 l0_2 a0_3 l0_4 l0_5 l0_6 a0_7).bind fun t102=>(if t102=true then ((Xu.f k l0_0 l0_1 l0_2 a0_3 l0_4 l0_5 l0_6 a0_7).bind fun bt103=>((Xab.f k l0_0 l0_1).bind fun t109=>((Xk.f k bt103.1 bt103.2.1).bind fun t112=>((Xx.f k t109 t112).bind fun t115=>(some t115))))) else (some false))
def XT.T4:Bool × List (List Nat × List Nat):=(true,[([],[]),([0],[0]),([1],[1]),([],[]),([3],[3]),([4],[4]),([2,5],[2,5]),([],[]),([7,6],[7]),([6,8,8],[6,8]),([9,9,0,1,2,3,4,5,6,7,8,9],[9])])
def XT.B4:List Nat:=[0,1,3,0,8,24,63,0,255,511,1023]
theorem XT.tab4:rtab .any (opsOf Tryz.f34 4)=XT.T4:=by kernel_rfl
theorem XT.bits4:waitsOk XT.T4.2 XT.B4=true:=by kernel_rfl
theorem XT.calls (k:Nat) (A0_0:Option Addr) (c0_0:Nat) (l0_0:List (S140)) (A0_1:Option Addr) (c0_1:Nat) (l0_1:List (S162)) (A0_2:Option Addr) (c0_2:Nat) (l0_2:List (S97)) (a0_3:Int) (A0_4:Option Addr) (c0_4:Nat) (l0_4:List (S73)) (A0_5:Option Addr) (c0_5:Nat) (l0_5:List Int) (A0_6:Option Addr) (c0_6:Nat) (l0_6:List Int) (a0_7:Int) (r:Bool) (w:World) (h0_0:Rw k140 w A0_0 c0_0 l0_0) (h0_1:Rw k162 w A0_1 c0_1 l0_1) (h0_2:Rw k97 w A0_2 c0_2 l0_2) (h0_4:Rw k73 w A0_4 c0_4 l0_4) (h0_5:Rw (Kd.int .i64) w A0_5 c0_5 l0_5) (h0_6:Rw (Kd.int .i64) w A0_6 c0_6 l0_6) (h:XT.f k l0_0 l0_1 l0_2 a0_3 l0_4 l0_5 l0_6 a0_7=some r) :
  Calls Tryz.prog 34 #[.agg #[.slice A0_0 l0_0.length c0_0,.slice A0_1 l0_1.length c0_1,.slice A0_2 l0_2.length c0_2,.int .i64 a0_3,.slice A0_4 l0_4.length c0_4,.slice A0_5 l0_5.length c0_5,.slice A0_6 l0_6.length c0_6,.int .i64 a0_7]] w fun e w'=>e = .returned (.bool r)∧Below w.heap.size w w':=by
 have hu43:=Tryz.underlying43
 have hu41:=Tryz.underlying41
 obtain⟨HR0_0,HC0_0⟩:=h0_0
 obtain⟨HR0_1,HC0_1⟩:=h0_1
 obtain⟨HR0_2,HC0_2⟩:=h0_2
 obtain⟨HR0_4,HC0_4⟩:=h0_4
 obtain⟨HR0_5,HC0_5⟩:=h0_5
 obtain⟨HR0_6,HC0_6⟩:=h0_6
 have HB:=aM (Below.refl w.heap.size w)
 have H:=h
 unfold XT.f at H
 clear h
 replace H:=bE H;obtain⟨t102,A2,H⟩:=H
 go_enter Tryz.func34,Tryz.ntmps34
 go_wp2_with (refine boxE 1 #[.slice A0_0 l0_0.length c0_0,.slice A0_1 l0_1.length c0_1,.slice A0_2 l0_2.length c0_2,.int .i64 a0_3,.slice A0_4 l0_4.length c0_4,.slice A0_5 l0_5.length c0_5,.slice A0_6 l0_6.length c0_6,.int .i64 a0_7] 43 ?_;intro gbz1 hg wz1 hbox hb;have BKz1:=aM (hbox);have GWz1:=aG hg HB;replace HB:=aS HB hb;clear hb hbox hg;have hczz1:=cZ8 BKz1.out;refine Stop.out ?_)
 refine⟨?_⟩
 cases t102
 case false =>
  rw[if_neg nft] at H
  obtain rfl:=sI H
  go_wp2_with (refine gB 42 6 Tryz.func42 (Xf.calls _ _ _ _ _ _ _ _ _ _ _ _ _ _ _ _ _ _ _ _ _ _ _ (rW HR0_0 HB HC0_0) (rW HR0_1 HB HC0_1) (rW HR0_2 HB HC0_2) (rW HR0_4 HB HC0_4) (rW HR0_5 HB HC0_5) (rW HR0_6 HB HC0_6) A2.out) ?_;intro wz2 hb;replace BKz1:=aB BKz1 hb;replace HB:=aS HB hb;clear hb)
  go_ret
  exact⟨rE,(hX HB.out)⟩
 rw[if_pos rfl] at H
 replace H:=bE H;obtain⟨⟨t103,t106,t107⟩,A4,H⟩:=H
 try dsimp only at H
 replace H:=bE H;obtain⟨t109,A5,H⟩:=H
 replace H:=bE H;obtain⟨t112,A6,H⟩:=H
 replace H:=bE H;obtain⟨t115,A7,H⟩:=H
 obtain rfl:=sI H
 try go_wp2_with (first | (refine gB 42 6 Tryz.func42 (Xf.calls _ _ _ _ _ _ _ _ _ _ _ _ _ _ _ _ _ _ _ _ _ _ _ (rW HR0_0 HB HC0_0) (rW HR0_1 HB HC0_1) (rW HR0_2 HB HC0_2) (rW HR0_4 HB HC0_4) (rW HR0_5 HB HC0_5) (rW HR0_6 HB HC0_6) A2.out) ?_;intro wz2 hb;replace BKz1:=aB BKz1 hb;replace HB:=aS HB hb;clear hb;have hczz9:=cZ8 BKz1.out) | (refine goesM 29 10 Tryz.func29 #[.agg #[.slice A0_0 l0_0.length c0_0,.slice A0_1 l0_1.length c0_1,.slice A0_2 l0_2.length c0_2,.int .i64 a0_3,.slice A0_4 l0_4.length c0_4,.slice A0_5 l0_5.length c0_5,.slice A0_6 l0_6.length c0_6,.int .i64 a0_7]] ?_;refine(Xu.calls _ _ _ _ _ _ _ _ _ _ _ _ _ _ _ _ _ _ _ _ _ _ _ _ _ (rW HR0_0 HB HC0_0) (rW HR0_1 HB HC0_1) (rW HR0_2 HB HC0_2) (rW HR0_4 HB HC0_4) (rW HR0_5 HB HC0_5) (rW HR0_6 HB HC0_6) A4.out).mono ?_;rintro e wz3 ⟨vz1,rfl,hoz1,hb⟩;refine⟨_,rfl,?_⟩;have HOz1:=aM (Kd.R_lower hoz1 (below_size (hX HB.out)));replace BKz1:=aB BKz1 hb;replace HB:=aS HB hb;clear hb hoz1) | (refine boxE 3 #[.slice none 0 0,.int .i64 0] 41 ?_;intro gbz2 hg wz4 hbox hb;have BKz2:=aM (hbox);have GWz2:=aG hg HB;have NBz1:=aL hg BKz1;have NBz2:=aR hg BKz1;replace HOz1:=aQ HOz1 hb;replace BKz1:=aB BKz1 hb;replace HB:=aS HB hb;clear hb hbox hg;obtain⟨Aoz1,coz1,eoz1⟩:=Kd.R_slice HOz1.out;subst eoz1;have hnbz1:=nB NBz2 NBz1;have hczz17:=cZ2 BKz2.out))
 have nz1:Aside0 (Kd.R (Kd.int .i64) 3 ((wz4.setCell ⟨gbz2,0,none⟩ (.slice Aoz1 t103.length coz1)).setCell ⟨gbz2,1,none⟩ (.int .i64 t106)) w.heap.size (fun _=>True) (.slice Aoz1 t103.length coz1) t103):=⟨(Kd.R_mono (rF HOz1.out BKz2.out) (fun _ hk=>trivial))⟩
 have nz2:Aside0 (((wz4.setCell ⟨gbz2,0,none⟩ (.slice Aoz1 t103.length coz1)).setCell ⟨gbz2,1,none⟩ (.int .i64 t106)).heap[gbz1]? = some (.cells #[.slice A0_0 l0_0.length c0_0,.slice A0_1 l0_1.length c0_1,.slice A0_2 l0_2.length c0_2,.int .i64 a0_3,.slice A0_4 l0_4.length c0_4,.slice A0_5 l0_5.length c0_5,.slice A0_6 l0_6.length c0_6,.int .i64 a0_7] 43 (0,0))):=⟨(bF BKz1.out)⟩
 have nz3:Aside0 (((wz4.setCell ⟨gbz2,0,none⟩ (.slice Aoz1 t103.length coz1)).setCell ⟨gbz2,1,none⟩ (.int .i64 t106)).heap[gbz2]? = some (.cells #[.slice Aoz1 t103.length coz1,.int .i64 t106] 41 (0,0))):=⟨(bP BKz2.out)⟩
 have nz4:Aside0 (Below w.heap.size w ((wz4.setCell ⟨gbz2,0,none⟩ (.slice Aoz1 t103.length coz1)).setCell ⟨gbz2,1,none⟩ (.int .i64 t106))):=⟨(hX HB.out)⟩
 (try clear HOz1)
 (try clear BKz1)
 (try clear BKz2)
 (try clear HB)
 generalize ((wz4.setCell ⟨gbz2,0,none⟩ (.slice Aoz1 t103.length coz1)).setCell ⟨gbz2,1,none⟩ (.int .i64 t106))=wz5 at nz1 nz2 nz3 nz4 ⊢
 have HOz1:=nz1
 have BKz1:=nz2
 have BKz2:=nz3
 have HB:=nz4
 clear nz1 nz2 nz3 nz4
 replace HOz1:=aM (Kd.R_drew HOz1.out)
 have hcb0_:=cV8 BKz1.out
 have hcb1_:=cV2 BKz2.out
 refine sR0 11 XT.tab4 XT.bits4 (fun HT_ HW_ hHeld => ?_)
 refine zA 0 ?_
 refine zA 1 ?_
 refine zA 3 ?_
 refine zA 4 ?_
 refine tA 2 ?_
 refine tA 5 ?_
 refine tA 7 ?_
 refine oA 6 (fun K hK => ?_)
 refine goesN Tryz.func56 #[.slice A0_0 l0_0.length c0_0,.slice A0_1 l0_1.length c0_1] ?_
 refine(Xab.calls k _ _ l0_0 _ _ l0_1 t109 _ (rW HR0_0 HB HC0_0) (rW HR0_1 HB HC0_1) A5.out).mono ?_
 rintro e wz7 ⟨vz2,rfl,hoz1,hb⟩
 have hS_:=below_step hHeld hb
 refine⟨_,rfl,?_⟩
 have HOz2:=aM (Kd.R_lower (Kd.R_new' hoz1 (Kd.R_lt (rX HOz1.out))) (below_size (hX HB.out)))
 replace HOz1:=aM (Kd.R_elder' (rX HOz1.out) (Kd.R_base hoz1) hb)
 replace BKz1:=aB BKz1 hb
 replace BKz2:=aB BKz2 hb
 replace HB:=aS HB hb
 (try clear hb)
 (try clear hk)
 (try clear hoz1)
 refine hK.out _ _ hS_ (fun hHeld => ?_)
 clear hK K hS_
 refine nZ 19 ?_
 refine oA 8 (fun K hK => ?_)
 refine goesN Tryz.func85 #[.agg #[.slice Aoz1 t103.length coz1,.int .i64 t106]] ?_
 refine(Xk.calls k _ _ t103 t106 t112 _ (rw2 (rD HOz1.out) (rL HOz1.out)) A6.out).mono ?_
 rintro e wz8 ⟨vz3,rfl,hoz1,hb⟩
 have hS_:=below_step hHeld hb
 refine⟨_,rfl,?_⟩
 have HOz3:=aM (Kd.R_lower (Kd.R_new' (Kd.R_new' hoz1 (Kd.R_lt (rX HOz1.out))) (Kd.R_lt (rX HOz2.out))) (below_size (hX HB.out)))
 replace HOz1:=aM (Kd.R_elder' (rX HOz1.out) (Kd.R_base hoz1) hb)
 replace HOz2:=aM (Kd.R_elder' (rX HOz2.out) (Kd.R_base hoz1) hb)
 replace BKz1:=aB BKz1 hb
 replace BKz2:=aB BKz2 hb
 replace HB:=aS HB hb
 (try clear hb)
 (try clear hk)
 (try clear hoz1)
 obtain⟨Aoz2,coz2,eoz2⟩:=Kd.R_slice HOz2.out
 (first | subst eoz2 | (injection eoz2 with f1_ f2_ f3_;have fz1:=f1_.symm;have fz2:=f3_.symm;clear f1_ f2_ f3_;subst fz1;subst fz2))
 obtain⟨Aoz3,coz3,eoz3⟩:=Kd.R_slice HOz3.out
 (first | subst eoz3 | (injection eoz3 with f1_ f2_ f3_;have fz1:=f1_.symm;have fz2:=f3_.symm;clear f1_ f2_ f3_;subst fz1;subst fz2))
 refine hK.out _ _ hS_ (fun hHeld => ?_)
 clear hK K hS_
 refine nZ 21 ?_
 refine eD 9 Tryz.func84 (Xx.calls k _ _ t109 _ _ t112 t115 _ (rw2 (by repeat (first | exact(Kd.R_reads' HOz2.out).2.2 | (with_reducible refine Kd.C_alloc ?_ _) | (with_reducible refine Kd.C_drewN ?_ _) | (with_reducible refine Kd.C_drew ?_))) (by exact(Kd.R_reads' HOz2.out).2.1)) (rw2 (by repeat (first | exact(Kd.R_reads' HOz3.out).2.2 | (with_reducible refine Kd.C_alloc ?_ _) | (with_reducible refine Kd.C_drewN ?_ _) | (with_reducible refine Kd.C_drew ?_))) (by exact(Kd.R_reads' HOz3.out).2.1)) A7.out) (fun nd hHeld => ?_)
 refine zA 10 ?_
 refine dA ?_
 try go_wp2
 go_ret
 exact⟨rE,(hX HB.out)⟩
mutual
def Xg.l0:Nat→List (S73)→Int→Int→List (S140)→List (S162)→List (S97)→Int→List (S73)→List Int→List Int→Int→Option (Bool)
 | 0,_,_,_,_,_,_,_,_,_,_,_=>none
 | k+1,x11,x12,x13,x102000,x102001,x102002,x102003,x102004,x102005,x102006,x102007=>if x13<x12 then (if 0≤x13 then (if x13<(x11.length:Int) then (if ((rd_T73 x11 x13).f4) ≥ 0 then (if ((rd_T73 x11 x13).f3)<0 then (Xg.j1 k x13 x11 x12 x13 true x102000 x102001 x102002 x102003 x102004 x102005 x102006 x102007 ((rd_T73 x11 x13).f0) ((rd_T73 x11 x13).f1.f0) ((rd_T73 x11 x13).f1.f1) ((rd_T73 x11 x13).f1.f2) ((rd_T73 x11 x13).f2) ((rd_T73 x11 x13).f3) ((rd_T73 x11 x13).f4) ((rd_T73 x11 x13).f5.f0) ((rd_T73 x11 x13).f5.f1)) else (Xg.j1 k x13 x11 x12 x13 (decide (((rd_T73 x11 x13).f3) > ((rd_T73 x11 x13).f4))) x102000 x102001 x102002 x102003 x102004 x102005 x102006 x102007 ((rd_T73 x11 x13).f0) ((rd_T73 x11 x13).f1.f0) ((rd_T73 x11 x13).f1.f1) ((rd_T73 x11 x13).f1.f2) ((rd_T73 x11 x13).f2) ((rd_T73 x11 x13).f3) ((rd_T73 x11 x13).f4) ((rd_T73 x11 x13).f5.f0) ((rd_T73 x11 x13).f5.f1))) else (Xg.j1 k x13 x11 x12 x13 false x102000 x102001 x102002 x102003 x102004 x102005 x102006 x102007 ((rd_T73 x11 x13).f0) ((rd_T73 x11 x13).f1.f0) ((rd_T73 x11 x13).f1.f1) ((rd_T73 x11 x13).f1.f2) ((rd_T73 x11 x13).f2) ((rd_T73 x11 x13).f3) ((rd_T73 x11 x13).f4) ((rd_T73 x11 x13).f5.f0) ((rd_T73 x11 x13).f5.f1))) else (none)) else (none)) else (some true)
def Xg.j1:Nat→Int→List (S73)→Int→Int→Bool→List (S140)→List (S162)→List (S97)→Int→List (S73)→List Int→List Int→Int→Int→Int→Int→Int→Int→Int→Int→Int→List Int→Option (Bool)
 | 0,_,_,_,_,_,_,_,_,_,_,_,_,_,_,_,_,_,_,_,_,_,_=>none
 | k+1,x3,x11,x12,x13,x32,x102000,x102001,x102002,x102003,x102004,x102005,x102006,x102007,x105000,x105001,x105002,x105003,x105004,x105005,x105006,x105007,x105008=>if x32=true then (some false) else (if 0≤x3 then (if x3≤(x102004.length:Int) then ((some (x102004.take (x3:Int).toNat:List (S73))).bind fun y105=>(Xg.l1 k x11 x12 x13 y105 (y105.length:Int) 0 x102000 x102001 x102002 x102003 x102004 x102005 x102006 x102007 x105000 x105001 x105002 x105003 x105004 x105005 x105006 x105007 x105008)) else (none)) else (none))
def Xg.l1:Nat→List (S73)→Int→Int→List (S73)→Int→Int→List (S140)→List (S162)→List (S97)→Int→List (S73)→List Int→List Int→Int→Int→Int→Int→Int→Int→Int→Int→Int→List Int→Option (Bool)
 | 0,_,_,_,_,_,_,_,_,_,_,_,_,_,_,_,_,_,_,_,_,_,_,_=>none
 | k+1,x11,x12,x13,x36,x37,x38,x102000,x102001,x102002,x102003,x102004,x102005,x102006,x102007,x105000,x105001,x105002,x105003,x105004,x105005,x105006,x105007,x105008=>if x38<x37 then (if 0≤x38 then (if x38<(x36.length:Int) then (if ((rd_T73 x36 x38).f0)=x105000 then ((Xbf.f ((rd_T73 x36 x38).f0) ((rd_T73 x36 x38).f1.f0) ((rd_T73 x36 x38).f1.f1) ((rd_T73 x36 x38).f1.f2) ((rd_T73 x36 x38).f2) ((rd_T73 x36 x38).f3) ((rd_T73 x36 x38).f4) ((rd_T73 x36 x38).f5.f0) ((rd_T73 x36 x38).f5.f1) x105000 x105001 x105002 x105003 x105004 x105005 x105006 x105007 x105008).bind fun t111=>(if t111=true then (Xg.l1 k x11 x12 x13 x36 x37 (wrap64 (x38+1)) x102000 x102001 x102002 x102003 x102004 x102005 x102006 x102007 x105000 x105001 x105002 x105003 x105004 x105005 x105006 x105007 x105008) else (some false))) else (Xg.l1 k x11 x12 x13 x36 x37 (wrap64 (x38+1)) x102000 x102001 x102002 x102003 x102004 x102005 x102006 x102007 x105000 x105001 x105002 x105003 x105004 x105005 x105006 x105007 x105008)) else (none)) else (none)) else (Xg.l0 k x11 x12 (wrap64 (x13+1)) x102000 x102001 x102002 x102003 x102004 x102005 x102006 x102007)
end
def Xg.f (k:Nat) (l0_0:List (S140)) (l0_1:List (S162)) (l0_2:List (S97)) (a0_3:Int) (l0_4:List (S73)) (l0_5:List Int) (l0_6:List Int) (a0_7:Int):Option (Bool):=(Xe.f k l0_0 l0_1 l0_2 a0_3 l0_4 l0_5 l0_6 a0_7).bind fun t102=>(if t102=true then (Xg.l0 k l0_4 (l0_4.length:Int) 0 l0_0 l0_1 l0_2 a0_3 l0_4 l0_5 l0_6 a0_7) else (some false))
theorem Xg.calls (k:Nat) (A0_0:Option Addr) (c0_0:Nat) (l0_0:List (S140)) (A0_1:Option Addr) (c0_1:Nat) (l0_1:List (S162)) (A0_2:Option Addr) (c0_2:Nat) (l0_2:List (S97)) (a0_3:Int) (A0_4:Option Addr) (c0_4:Nat) (l0_4:List (S73)) (A0_5:Option Addr) (c0_5:Nat) (l0_5:List Int) (A0_6:Option Addr) (c0_6:Nat) (l0_6:List Int) (a0_7:Int) (r:Bool) (w:World) (h0_0:Rw k140 w A0_0 c0_0 l0_0) (h0_1:Rw k162 w A0_1 c0_1 l0_1) (h0_2:Rw k97 w A0_2 c0_2 l0_2) (h0_4:Rw k73 w A0_4 c0_4 l0_4) (h0_5:Rw (Kd.int .i64) w A0_5 c0_5 l0_5) (h0_6:Rw (Kd.int .i64) w A0_6 c0_6 l0_6) (H:Xg.f k l0_0 l0_1 l0_2 a0_3 l0_4 l0_5 l0_6 a0_7=some r) :
  Calls Tryz.prog 13 #[.agg #[.slice A0_0 l0_0.length c0_0,.slice A0_1 l0_1.length c0_1,.slice A0_2 l0_2.length c0_2,.int .i64 a0_3,.slice A0_4 l0_4.length c0_4,.slice A0_5 l0_5.length c0_5,.slice A0_6 l0_6.length c0_6,.int .i64 a0_7]] w fun e w'=>e = .returned (.bool r)∧Below w.heap.size w w':=by
 have hu43:=Tryz.underlying43
 have hu73:=Tryz.underlying73
 obtain⟨HR0_0,HC0_0⟩:=h0_0
 obtain⟨HR0_1,HC0_1⟩:=h0_1
 obtain⟨HR0_2,HC0_2⟩:=h0_2
 obtain⟨HR0_4,HC0_4⟩:=h0_4
 obtain⟨HR0_5,HC0_5⟩:=h0_5
 obtain⟨HR0_6,HC0_6⟩:=h0_6
 have HB:=aM (Below.refl w.heap.size w)
 unfold Xg.f at H
 replace H:=bE H;obtain⟨t102,A2,H⟩:=H
 go_enter Tryz.func13,Tryz.ntmps13
 go_wp2_with (refine boxE 1 #[.slice A0_0 l0_0.length c0_0,.slice A0_1 l0_1.length c0_1,.slice A0_2 l0_2.length c0_2,.int .i64 a0_3,.slice A0_4 l0_4.length c0_4,.slice A0_5 l0_5.length c0_5,.slice A0_6 l0_6.length c0_6,.int .i64 a0_7] 43 ?_;intro gbz1 hg wz1 hbox hb;have BKz1:=aM (hbox);have GWz1:=aG hg HB;replace HB:=aS HB hb;clear hb hbox hg;have hczz1:=cZ8 BKz1.out;refine Stop.out ?_)
 refine⟨?_⟩
 cases t102
 case false =>
  rw[if_neg nft] at H
  obtain rfl:=sI H
  go_wp2_with (refine gB 48 8 Tryz.func48 (Xe.calls _ _ _ _ _ _ _ _ _ _ _ _ _ _ _ _ _ _ _ _ _ _ _ (rW HR0_0 HB HC0_0) (rW HR0_1 HB HC0_1) (rW HR0_2 HB HC0_2) (rW HR0_4 HB HC0_4) (rW HR0_5 HB HC0_5) (rW HR0_6 HB HC0_6) A2.out) ?_;intro wz2 hb;replace BKz1:=aB BKz1 hb;replace HB:=aS HB hb;clear hb)
  go_ret
  exact⟨rE,(hX HB.out)⟩
 rw[if_pos rfl] at H
 have H':=aM H
 clear H
 go_wp2_with (refine gB 48 8 Tryz.func48 (Xe.calls _ _ _ _ _ _ _ _ _ _ _ _ _ _ _ _ _ _ _ _ _ _ _ (rW HR0_0 HB HC0_0) (rW HR0_1 HB HC0_1) (rW HR0_2 HB HC0_2) (rW HR0_4 HB HC0_4) (rW HR0_5 HB HC0_5) (rW HR0_6 HB HC0_6) A2.out) ?_;intro wz2 hb;replace BKz1:=aB BKz1 hb;replace HB:=aS HB hb;clear hb;have hczz9:=cZ8 BKz1.out)
 go_loopg [13] k (fun kq v13 w'=>∃ (x13_1:Int),v13 = .int .i64 x13_1∧Aside0 (Xg.l0 kq l0_4 (l0_4.length:Int) x13_1 l0_0 l0_1 l0_2 a0_3 l0_4 l0_5 l0_6 a0_7=some r)∧Aside0 (kq≤k)∧Aside0 (w'.heap[gbz1]? = some (.cells #[(.slice A0_0 l0_0.length c0_0),(.slice A0_1 l0_1.length c0_1),(.slice A0_2 l0_2.length c0_2),.int .i64 a0_3,(.slice A0_4 l0_4.length c0_4),(.slice A0_5 l0_5.length c0_5),(.slice A0_6 l0_6.length c0_6),.int .i64 a0_7] 43 (0,0)))∧Aside0 (Below w.heap.size w w'))
 case atStart=>exact⟨(0),rS,H',⟨Nat.le_refl _⟩,⟨(bX BKz1.out)⟩,⟨(hX HB.out)⟩⟩
 case round =>
  clear H'
  try clear hczz1
  try clear hczz9
  obtain⟨x13_1,rfl,HA,HKy1,BKz1,HB⟩:=hrel
  cases gk with
  | zero=>exact absurd HA.out (by simp[Xg.l0])
  | succ k1 =>
   have H:=HA.out
   clear HA
   simp only[Xg.l0] at H
   revert H;refine iN ?_ ?_<;>intro c8b0 H
   ·obtain rfl:=sI H
    exact fS
   replace H:=ifQ H;obtain⟨c9b0,H⟩:=H
   replace H:=ifQ H;obtain⟨c10b0,H⟩:=H
   have HC11:=aM H
   clear H
   obtain⟨adx1,Ax1,cx1,ex1,px1,qx1,hxx1,HCx1,HRx1⟩:=at_T73c HR0_4 HB x13_1
   cases ex1
   go_upto_region 6 with((with_reducible refine gate_dst (N:=4) rfl ?_);refine boxE 4 #[.int .i64 0,.int .i64 0,.int .i64 0,.int .i64 0,.int .i64 0,.int .i64 0,.int .i64 0,.int .i64 0,.slice none 0 0] 73 ?_;intro gbx1 hg wx1 hbox hb;have BKx1:=aM (hbox);have GWx1:=aG hg HB;have NBx1:=aL hg BKz1;have NBx2:=aR hg BKz1;replace BKz1:=aB BKz1 hb;replace HB:=aS HB hb;clear hb hbox hg;have hnbx1:=nB NBx2 NBx1;have hczx1:=cZ9 BKx1.out)
   (try simp only[Act.put,List.setIfInBounds_toArray,List.set_cons_zero,List.set_cons_succ])
   go_cut [32] (fun vx1 wc=>∃ (kq:Nat) (x32_10:Bool),vx1 = .bool x32_10∧Aside0 (Xg.j1 kq x13_1 l0_4 (l0_4.length:Int) x13_1 x32_10 l0_0 l0_1 l0_2 a0_3 l0_4 l0_5 l0_6 a0_7 ((rd_T73 l0_4 x13_1).f0) ((rd_T73 l0_4 x13_1).f1.f0) ((rd_T73 l0_4 x13_1).f1.f1) ((rd_T73 l0_4 x13_1).f1.f2) ((rd_T73 l0_4 x13_1).f2) ((rd_T73 l0_4 x13_1).f3) ((rd_T73 l0_4 x13_1).f4) ((rd_T73 l0_4 x13_1).f5.f0) ((rd_T73 l0_4 x13_1).f5.f1)=some r)∧Aside0 (kq≤k1)∧Aside0 (wc.heap[gbz1]? = some (.cells #[(.slice A0_0 l0_0.length c0_0),(.slice A0_1 l0_1.length c0_1),(.slice A0_2 l0_2.length c0_2),.int .i64 a0_3,(.slice (some adx1) l0_4.length c0_4),(.slice A0_5 l0_5.length c0_5),(.slice A0_6 l0_6.length c0_6),.int .i64 a0_7] 43 (0,0)))∧Aside0 (wc.heap[gbx1]? = some (.cells #[.int .i64 ((rd_T73 l0_4 x13_1).f0),.int .i64 ((rd_T73 l0_4 x13_1).f1.f0),.int .i64 ((rd_T73 l0_4 x13_1).f1.f1),.int .i64 ((rd_T73 l0_4 x13_1).f1.f2),.int .i64 ((rd_T73 l0_4 x13_1).f2),.int .i64 ((rd_T73 l0_4 x13_1).f3),.int .i64 ((rd_T73 l0_4 x13_1).f4),.int .i64 ((rd_T73 l0_4 x13_1).f5.f0),(.slice Ax1 ((rd_T73 l0_4 x13_1).f5.f1).length cx1)] 73 (0,0)))∧Aside0 (Below w.heap.size w wc))
   case first =>
    have H:=HC11.out
    clear HC11
    revert H;refine iN ?_ ?_<;>intro c15b0 H
    ·(first | rw[c15b0] | (simp only[i64_w,i32_w];rw[c15b0]) | skip)
     have H':=aM H
     clear H
     have hnbw1:=NBx2.out
     have hncw1:=NBx1.out
     have hczw1:=cZ9 BKx1.out
     go_wp2
     go_meet
     case rel=>exact⟨_,(false),rS,H',⟨by have:=HKy1.out;first | omega | exact Nat.le_refl _⟩,⟨(bF BKz1.out)⟩,⟨(bP BKx1.out)⟩,⟨(hX HB.out)⟩⟩
    (first | rw[c15b0] | (simp only[i64_w,i32_w];rw[c15b0]) | skip)
    revert H;refine iP ?_ ?_<;>intro c16b0 H
    ·have H':=aM H
     clear H
     have hnbw1:=NBx2.out
     have hncw1:=NBx1.out
     have hczw1:=cZ9 BKx1.out
     go_wp2
     go_meet
     case rel=>exact⟨_,(true),rS,H',⟨by have:=HKy1.out;first | omega | exact Nat.le_refl _⟩,⟨(bF BKz1.out)⟩,⟨(bP BKx1.out)⟩,⟨(hX HB.out)⟩⟩
    have H':=aM H
    clear H
    have hnbw1:=NBx2.out
    have hncw1:=NBx1.out
    have hczw1:=cZ9 BKx1.out
    go_wp2
    go_meet
    case rel=>exact⟨_,(decide (((rd_T73 l0_4 x13_1).f3) > ((rd_T73 l0_4 x13_1).f4))),rS,H',⟨by have:=HKy1.out;first | omega | exact Nat.le_refl _⟩,⟨(bF BKz1.out)⟩,⟨(bP BKx1.out)⟩,⟨(hX HB.out)⟩⟩
   case rest =>
    clear HC11
    try clear c8b0
    try clear c9b0
    try clear c10b0
    try clear hczx1
    try clear hczz1
    try clear hczz9
    try clear hxx1
    try clear px1
    try clear qx1
    obtain⟨kq,x32_10,rfl,HA,HJw1,BKz1,BKx1,HB⟩:=hcut
    cases kq with
    | zero=>exact absurd HA.out (by simp[Xg.j1])
    | succ kj10 =>
     have H:=HA.out
     clear HA
     simp only[Xg.j1] at H
     cases x32_10
     case true =>
      rw[if_pos rfl] at H
      exact fR
     rw[if_neg nft] at H
     replace H:=ifP H;obtain⟨c24,H⟩:=H
     have c24b0:=eq_true c24
     have c24b1:=decide_eq_true c24
     clear c24
     replace H:=ifP H;obtain⟨c25,H⟩:=H
     have c25b0:=eq_true c25
     have c25b1:=decide_eq_true c25
     clear c25
     replace H:=sE H;obtain⟨y105,Ny105,H⟩:=H
     have H':=aM H
     clear H
     have hnbv1:=nB NBx1 NBx2
     have hczv1:=cZ8 BKz1.out
     have qv1:(x13_1:Int)≤((l0_4.length:Int):Int):=odA
     obtain⟨iv1,hiv1,_,hszv1,_⟩:=info_parts info73
     have hroomv1:l0_4.length≤c0_4:=HC0_4.out
     have hCv1:Kd.C k73 _ (some adx1) l0_4.length l0_4:=HR0_4.out
     have hcutv1:=cut_to (P:=Tryz.prog) 40 73 .i64 Tryz.underlying40 hiv1 (some adx1) l0_4.length c0_4 x13_1 (odA) qv1 hroomv1
     have hrv1:=Kd.C_take (m:=(x13_1:Int).toNat) hCv1 (by omega)
     have hyv1:y105.length=(x13_1:Int).toNat:=(by rw[Ny105.out,List.length_take];omega)
     rw[← Ny105.out] at hrv1
     rw[← hyv1] at hcutv1
     have HRv1:=aM hrv1
     have HCv1:=aM (show y105.length≤c0_4 from by omega)
     clear hrv1 hCv1 hroomv1 hiv1 hszv1
     have KYv1:=aM hyv1
     clear hyv1
     replace qv1:=eq_true qv1
     go_wp2
     go_loopg [38] kj10 (fun kq v38 w'=>∃ (x38_3:Int),v38 = .int .i64 x38_3∧Aside0 (Xg.l1 kq l0_4 (l0_4.length:Int) x13_1 y105 (y105.length:Int) x38_3 l0_0 l0_1 l0_2 a0_3 l0_4 l0_5 l0_6 a0_7 ((rd_T73 l0_4 x13_1).f0) ((rd_T73 l0_4 x13_1).f1.f0) ((rd_T73 l0_4 x13_1).f1.f1) ((rd_T73 l0_4 x13_1).f1.f2) ((rd_T73 l0_4 x13_1).f2) ((rd_T73 l0_4 x13_1).f3) ((rd_T73 l0_4 x13_1).f4) ((rd_T73 l0_4 x13_1).f5.f0) ((rd_T73 l0_4 x13_1).f5.f1)=some r)∧Aside0 (kq≤kj10)∧Aside0 (w'.heap[gbz1]? = some (.cells #[(.slice A0_0 l0_0.length c0_0),(.slice A0_1 l0_1.length c0_1),(.slice A0_2 l0_2.length c0_2),.int .i64 a0_3,(.slice (some adx1) l0_4.length c0_4),(.slice A0_5 l0_5.length c0_5),(.slice A0_6 l0_6.length c0_6),.int .i64 a0_7] 43 (0,0)))∧Aside0 (w'.heap[gbx1]? = some (.cells #[.int .i64 ((rd_T73 l0_4 x13_1).f0),.int .i64 ((rd_T73 l0_4 x13_1).f1.f0),.int .i64 ((rd_T73 l0_4 x13_1).f1.f1),.int .i64 ((rd_T73 l0_4 x13_1).f1.f2),.int .i64 ((rd_T73 l0_4 x13_1).f2),.int .i64 ((rd_T73 l0_4 x13_1).f3),.int .i64 ((rd_T73 l0_4 x13_1).f4),.int .i64 ((rd_T73 l0_4 x13_1).f5.f0),(.slice Ax1 ((rd_T73 l0_4 x13_1).f5.f1).length cx1)] 73 (0,0)))∧Aside0 (Below w.heap.size w w'))
     case atStart=>exact⟨(0),rS,H',⟨Nat.le_refl _⟩,⟨(bX BKz1.out)⟩,⟨(bX BKx1.out)⟩,⟨(hX HB.out)⟩⟩
     case round =>
      clear H'
      try clear c8b0
      try clear c9b0
      try clear c10b0
      try clear c24
      try clear c24b0
      try clear c24b1
      try clear c25
      try clear c25b0
      try clear c25b1
      try clear qv1
      try clear hczx1
      try clear hczv1
      try clear hczz1
      try clear hczz9
      try clear hxx1
      try clear px1
      try clear qx1
      obtain⟨x38_3,rfl,HA,HKu1,BKz1,BKx1,HB⟩:=hrel
      cases gk with
      | zero=>exact absurd HA.out (by simp[Xg.l1])
      | succ k3 =>
       have H:=HA.out
       clear HA
       simp only[Xg.l1] at H
       revert H;refine iN ?_ ?_<;>intro c29b0 H
       ·have H':=aM H
        clear H
        go_wp2
        go_roundg k3
        case measure=>have:=HKy1.out;have:=HJw1.out;have:=HKu1.out;omega
        case rel=>exact⟨(wrap64 (x13_1+1)),rS,H',⟨by have:=HKy1.out;have:=HJw1.out;have:=HKu1.out;omega⟩,⟨(bX BKz1.out)⟩,⟨(hX HB.out)⟩⟩
       replace H:=ifQ H;obtain⟨c30b0,H⟩:=H
       replace H:=ifQ H;obtain⟨c31b0,H⟩:=H
       obtain⟨adt1,At1,ct1,et1,pt1,qt1,hxt1,HCt1,HRt1⟩:=at_T73c HRv1 HB x38_3
       obtain rfl:adx1=adt1:=(by injection et1)
       go_wp2_with (refine boxE 6 #[.int .i64 0,.int .i64 0,.int .i64 0,.int .i64 0,.int .i64 0,.int .i64 0,.int .i64 0,.int .i64 0,.slice none 0 0] 73 ?_;intro gbt1 hg wt1 hbox hb;have BKt1:=aM (hbox);have GWt1:=aG hg HB;have NBt1:=aL hg BKz1;have NBt2:=aR hg BKz1;have NBt3:=aL hg BKx1;have NBt4:=aR hg BKx1;replace BKz1:=aB BKz1 hb;replace BKx1:=aB BKx1 hb;replace HB:=aS HB hb;clear hb hbox hg;have hnbt1:=nB NBt2 NBt1;have hnbt2:=nB NBt4 NBt3;have hczt1:=cZ9 BKt1.out;have hnbt3:=nB NBx2 NBx1;have hczt10:=cZ9 BKx1.out;refine Stop.out ?_)
       refine⟨?_⟩
       revert H;refine eN ?_ ?_<;>intro c32b0 c32b1 H
       ·have H':=aM H
        clear H
        go_wp2
        go_roundg k3
        case measure=>have:=HKy1.out;have:=HJw1.out;have:=HKu1.out;omega
        case rel=>exact⟨(wrap64 (x38_3+1)),rS,H',⟨by have:=HKy1.out;have:=HJw1.out;have:=HKu1.out;omega⟩,⟨(bF BKz1.out)⟩,⟨(bF BKx1.out)⟩,⟨(hX HB.out)⟩⟩
       replace H:=bE H;obtain⟨t111,A33,H⟩:=H
       cases t111
       case false =>
        rw[if_neg nft] at H
        obtain rfl:=sI H
        go_wp2_with (go_at_call 49;(with_reducible refine(Xbf.calls ((rd_T73 y105 x38_3).f0) ((rd_T73 y105 x38_3).f1.f0) ((rd_T73 y105 x38_3).f1.f1) ((rd_T73 y105 x38_3).f1.f2) ((rd_T73 y105 x38_3).f2) ((rd_T73 y105 x38_3).f3) ((rd_T73 y105 x38_3).f4) ((rd_T73 y105 x38_3).f5.f0) _ _ ((rd_T73 y105 x38_3).f5.f1) ((rd_T73 l0_4 x13_1).f0) ((rd_T73 l0_4 x13_1).f1.f0) ((rd_T73 l0_4 x13_1).f1.f1) ((rd_T73 l0_4 x13_1).f1.f2) ((rd_T73 l0_4 x13_1).f2) ((rd_T73 l0_4 x13_1).f3) ((rd_T73 l0_4 x13_1).f4) ((rd_T73 l0_4 x13_1).f5.f0) _ _ ((rd_T73 l0_4 x13_1).f5.f1) false _ (rw2 (by exact Kd.C_below HRt1.out (hX HB.out)) HCt1.out) (rw2 (by exact Kd.C_below HRx1.out (hX HB.out)) HCx1.out) A33.out).mono ?_);rintro e wt2 ⟨rfl,hb⟩;replace BKz1:=aF BKz1 hb;replace BKx1:=aF BKx1 hb;replace BKt1:=aM (blk_below (g:=gbt1) (o:=.cells #[.int .i64 ((rd_T73 y105 x38_3).f0),.int .i64 ((rd_T73 y105 x38_3).f1.f0),.int .i64 ((rd_T73 y105 x38_3).f1.f1),.int .i64 ((rd_T73 y105 x38_3).f1.f2),.int .i64 ((rd_T73 y105 x38_3).f2),.int .i64 ((rd_T73 y105 x38_3).f3),.int .i64 ((rd_T73 y105 x38_3).f4),.int .i64 ((rd_T73 y105 x38_3).f5.f0),.slice At1 ((rd_T73 y105 x38_3).f5.f1).length ct1] 73 (0,0)) (bP BKt1.out) hb);replace HB:=aS HB hb;clear hb)
        go_ret
        exact⟨rE,(hX HB.out)⟩
       rw[if_pos rfl] at H
       have H':=aM H
       clear H
       go_wp2_with (go_at_call 49;(with_reducible refine(Xbf.calls ((rd_T73 y105 x38_3).f0) ((rd_T73 y105 x38_3).f1.f0) ((rd_T73 y105 x38_3).f1.f1) ((rd_T73 y105 x38_3).f1.f2) ((rd_T73 y105 x38_3).f2) ((rd_T73 y105 x38_3).f3) ((rd_T73 y105 x38_3).f4) ((rd_T73 y105 x38_3).f5.f0) _ _ ((rd_T73 y105 x38_3).f5.f1) ((rd_T73 l0_4 x13_1).f0) ((rd_T73 l0_4 x13_1).f1.f0) ((rd_T73 l0_4 x13_1).f1.f1) ((rd_T73 l0_4 x13_1).f1.f2) ((rd_T73 l0_4 x13_1).f2) ((rd_T73 l0_4 x13_1).f3) ((rd_T73 l0_4 x13_1).f4) ((rd_T73 l0_4 x13_1).f5.f0) _ _ ((rd_T73 l0_4 x13_1).f5.f1) true _ (rw2 (by exact Kd.C_below HRt1.out (hX HB.out)) HCt1.out) (rw2 (by exact Kd.C_below HRx1.out (hX HB.out)) HCx1.out) A33.out).mono ?_);rintro e wt2 ⟨rfl,hb⟩;replace BKz1:=aF BKz1 hb;replace BKx1:=aF BKx1 hb;replace BKt1:=aM (blk_below (g:=gbt1) (o:=.cells #[.int .i64 ((rd_T73 y105 x38_3).f0),.int .i64 ((rd_T73 y105 x38_3).f1.f0),.int .i64 ((rd_T73 y105 x38_3).f1.f1),.int .i64 ((rd_T73 y105 x38_3).f1.f2),.int .i64 ((rd_T73 y105 x38_3).f2),.int .i64 ((rd_T73 y105 x38_3).f3),.int .i64 ((rd_T73 y105 x38_3).f4),.int .i64 ((rd_T73 y105 x38_3).f5.f0),.slice At1 ((rd_T73 y105 x38_3).f5.f1).length ct1] 73 (0,0)) (bP BKt1.out) hb);replace HB:=aS HB hb;clear hb)
       go_roundg k3
       case measure=>have:=HKy1.out;have:=HJw1.out;have:=HKu1.out;omega
       case rel=>exact⟨(wrap64 (x38_3+1)),rS,H',⟨by have:=HKy1.out;have:=HJw1.out;have:=HKu1.out;omega⟩,⟨(bX BKz1.out)⟩,⟨(bX BKx1.out)⟩,⟨(hX HB.out)⟩⟩
end Go.Proofs.YtmljebgideecjaaGreat.P2
