/- A part of the proof of the law FnExactReplay: texts of this seat, merged (words, printed functions of the program, plain lemmas). Conditions: none of its own. -/
import Derived.Test.YtmljebgideecjaaGreatP2kFnExactReplay14
import Derived.Test.YtmljebgideecjaaGreatP2kFnExactReplay15
import Derived.Test.YtmljebgideecjaaGreatP2kFnExactReplay16
import Derived.Test.YtmljebgideecjaaGreatP2kFnExactReplay17
set_option linter.unusedSimpArgs false
set_option linter.unusedVariables false
set_option maxHeartbeats 8000000
set_option maxRecDepth 100000
namespace Go.Proofs.YtmljebgideecjaaGreat.P2
open Go.Proofs.YtmljebgideecjaaGreatZ Go.RowKit Go.Proofs.YtmljebgideecjaaGreatW.PrintWords Go.Proofs.YtmljebgideecjaaGreatW.PrintLast Go.Proofs.YtmljebgideecjaaGreatW.PrintMore
attribute [local go_sem] max2_int min2_int max_two min_two max_three min_three max_four min_four   -- for this text's walks alone
def Xbd.f (a0_0:Int) (a0_1:Int) (l0_2:List (S224)) (a0_3:Int) (l0_4:List Int) (a1:Int):Option (Int):=(XaT.f l0_2 a1).bind fun t102=>(if t102<0 then (some (-1)) else ((XaM.f a0_3 l0_4 t102).bind fun t103=>(if t103<0 then (some (-1)) else (some t103))))
theorem Xbd.calls (a0_0:Int) (a0_1:Int) (A0_2:Option Addr) (c0_2:Nat) (l0_2:List (S224)) (a0_3:Int) (A0_4:Option Addr) (c0_4:Nat) (l0_4:List Int) (a1:Int) (r:Int) (w:World) (h0_2:Rw k224 w A0_2 c0_2 l0_2) (h0_4:Rw (Kd.int .i64) w A0_4 c0_4 l0_4) (H:Xbd.f a0_0 a0_1 l0_2 a0_3 l0_4 a1=some r) :
  Calls Tryz.prog 152 #[.agg #[.int .i64 a0_0,.int .i64 a0_1,.slice A0_2 l0_2.length c0_2,.int .i64 a0_3,.slice A0_4 l0_4.length c0_4],.int .i64 a1] w fun e w'=>e = .returned (.int .i64 r)∧Below w.heap.size w w':=by
 have hu155:=Tryz.underlying155
 have hu117:=Tryz.underlying117
 obtain⟨HR0_2,HC0_2⟩:=h0_2
 obtain⟨HR0_4,HC0_4⟩:=h0_4
 have HB:=aM (Below.refl w.heap.size w)
 unfold Xbd.f at H
 replace H:=bE H;obtain⟨t102,A3,H⟩:=H
 go_enter Tryz.func152,Tryz.ntmps152
 go_wp2_with (first | (refine boxE 2 #[.int .i64 a0_0,.int .i64 a0_1,.slice A0_2 l0_2.length c0_2,.int .i64 a0_3,.slice A0_4 l0_4.length c0_4] 155 ?_;intro gbz1 hg wz1 hbox hb;have BKz1:=aM (hbox);have GWz1:=aG hg HB;replace HB:=aS HB hb;clear hb hbox hg;have hczz1:=cZ5 BKz1.out) | (refine gD 204 8 Tryz.func204 (XaT.calls _ _ _ _ _ _ (rW HR0_2 HB HC0_2) A3.out) ?_;intro nd;refine Stop.out ?_))
 refine⟨?_⟩
 revert H;refine iP ?_ ?_<;>intro c4b0 H
 ·obtain rfl:=sI H
  exact fS
 replace H:=bE H;obtain⟨t103,A7,H⟩:=H
 go_wp2_with (refine gB 155 14 Tryz.func155 (XaM.calls _ _ _ _ _ _ _ (rW HR0_4 HB HC0_4) A7.out) ?_;intro wz2 hb;replace BKz1:=aB BKz1 hb;replace HB:=aS HB hb;clear hb;refine Stop.out ?_)
 refine⟨?_⟩
 revert H;refine iP ?_ ?_<;>intro c8b0 H
 ·obtain rfl:=sI H
  exact fS
 exact fR
def XI.l0:Nat→List (S114)→Int→Int→Option (Int)
 | 0,_,_,_=>none
 | k+1,x0,x1,x5=>if x5<(x0.length:Int) then (if 0≤x5 then ((XaU.f ((rd_T114 x0 x5).f0) ((rd_T114 x0 x5).f1) ((rd_T114 x0 x5).f2) ((rd_T114 x0 x5).f3) ((rd_T114 x0 x5).f4) x1).bind fun t102=>(if t102<0 then (some (-1)) else (XI.l0 k x0 t102 (wrap64 (x5+1))))) else (none)) else (some x1)
def XI.f (k:Nat) (l0:List (S114)) (a1:Int):Option (Int):=if (wrap64 (a1 - (l0.length:Int)))<0 then (some (-1)) else (XI.l0 k l0 (wrap64 (a1 - (l0.length:Int))) 0)
theorem XI.calls (k:Nat) (A0:Option Addr) (c0:Nat) (l0:List (S114)) (a1:Int) (r:Int) (w:World) (h0:Rw k114 w A0 c0 l0) (H:XI.f k l0 a1=some r) :
  Calls Tryz.prog 39 #[.slice A0 l0.length c0,.int .i64 a1] w fun e w'=>e = .returned (.int .i64 r)∧Below w.heap.size w w':=by
 have hu114:=Tryz.underlying114
 obtain⟨HR0,HC0⟩:=h0
 have HB:=aM (Below.refl w.heap.size w)
 unfold XI.f at H
 go_enter Tryz.func39,Tryz.ntmps39
 revert H;refine iP ?_ ?_<;>intro c3b0 H
 ·obtain rfl:=sI H
  exact fS
 have H':=aM H
 clear H
 go_wp2
 go_loopg [1,5] k (fun kq v1 v5 w'=>∃ (x1_1:Int) (x5_1:Int),v1 = .int .i64 x1_1∧v5 = .int .i64 x5_1∧Aside0 (XI.l0 kq l0 x1_1 x5_1=some r)∧Aside0 (kq≤k)∧Aside0 (Below w.heap.size w w'))
 case atStart=>exact⟨(wrap64 (a1 - (l0.length:Int))),(0),rS,rS,H',⟨Nat.le_refl _⟩,⟨(hX HB.out)⟩⟩
 case round =>
  clear H'
  try clear c3b0
  obtain⟨x1_1,x5_1,rfl,rfl,HA,HKy1,HB⟩:=hrel
  cases gk with
  | zero=>exact absurd HA.out (by simp[XI.l0])
  | succ k1 =>
   have H:=HA.out
   clear HA
   simp only[XI.l0] at H
   revert H;refine iN ?_ ?_<;>intro c4b0 H
   ·obtain rfl:=sI H
    exact fS
   replace H:=ifQ H;obtain⟨c5b0,H⟩:=H
   replace H:=bE H;obtain⟨t102,A6,H⟩:=H
   obtain⟨adx1,Ax1,cx1,Ax2,cx2,Ax3,cx3,ex1,px1,qx1,hxx1,HCx1,HRx1,HCx2,HRx2,HCx3,HRx3⟩:=at_T114c HR0 HB x5_1
   cases ex1
   go_wp2_with (refine gB 90 23 Tryz.func90 (XaU.calls _ _ _ _ _ _ _ _ _ _ _ _ _ _ (rW HRx1 HB HCx1) (rW HRx2 HB HCx2) (rW HRx3 HB HCx3) A6.out) ?_;intro wx1 hb;replace HB:=aS HB hb;clear hb;refine Stop.out ?_)
   refine⟨?_⟩
   revert H;refine iP ?_ ?_<;>intro c7b0 H
   ·obtain rfl:=sI H
    exact fS
   have H':=aM H
   clear H
   go_wp2
   go_roundg k1
   case measure=>have:=HKy1.out;omega
   case rel=>exact⟨(t102),(wrap64 (x5_1+1)),rS,rS,H',⟨by have:=HKy1.out;omega⟩,⟨(hX HB.out)⟩⟩
def Xbe.f (a0_0:Int) (a0_1:Int) (a0_2:Int) (a0_3:Int) (a0_4:Int) (a0_5:Int) (a0_6:Int) (a0_7:Int) (l0_8:List Int) (a1:Int):Option (Int):=(XaM.f a0_7 l0_8 a1).bind fun t102=>(if t102<0 then (some (-1)) else (some t102))
theorem Xbe.calls (a0_0:Int) (a0_1:Int) (a0_2:Int) (a0_3:Int) (a0_4:Int) (a0_5:Int) (a0_6:Int) (a0_7:Int) (A0_8:Option Addr) (c0_8:Nat) (l0_8:List Int) (a1:Int) (r:Int) (w:World) (h0_8:Rw (Kd.int .i64) w A0_8 c0_8 l0_8) (H:Xbe.f a0_0 a0_1 a0_2 a0_3 a0_4 a0_5 a0_6 a0_7 l0_8 a1=some r) :
  Calls Tryz.prog 91 #[.agg #[.int .i64 a0_0,.int .i64 a0_1,.int .i64 a0_2,.int .i64 a0_3,.int .i64 a0_4,.int .i64 a0_5,.int .i64 a0_6,.int .i64 a0_7,.slice A0_8 l0_8.length c0_8],.int .i64 a1] w fun e w'=>e = .returned (.int .i64 r)∧Below w.heap.size w w':=by
 have hu119:=Tryz.underlying119
 have hu117:=Tryz.underlying117
 obtain⟨HR0_8,HC0_8⟩:=h0_8
 have HB:=aM (Below.refl w.heap.size w)
 unfold Xbe.f at H
 replace H:=bE H;obtain⟨t102,A3,H⟩:=H
 go_enter Tryz.func91,Tryz.ntmps91
 go_wp2_with (first | (refine boxE 2 #[.int .i64 a0_0,.int .i64 a0_1,.int .i64 a0_2,.int .i64 a0_3,.int .i64 a0_4,.int .i64 a0_5,.int .i64 a0_6,.int .i64 a0_7,.slice A0_8 l0_8.length c0_8] 119 ?_;intro gbz1 hg wz1 hbox hb;have BKz1:=aM (hbox);have GWz1:=aG hg HB;replace HB:=aS HB hb;clear hb hbox hg;have hczz1:=cZ9 BKz1.out) | (refine gB 155 8 Tryz.func155 (XaM.calls _ _ _ _ _ _ _ (rW HR0_8 HB HC0_8) A3.out) ?_;intro wz2 hb;replace BKz1:=aB BKz1 hb;replace HB:=aS HB hb;clear hb;refine Stop.out ?_))
 refine⟨?_⟩
 revert H;refine iP ?_ ?_<;>intro c4b0 H
 ·obtain rfl:=sI H
  exact fS
 exact fR
def Xbf.f (k:Nat) (a0_0:Int) (a0_1:Int) (l0_2:List (S224)) (a0_3:Int) (l0_4:List Int):Option (Int × Int × (List (S165)) × Int × List Int):=(XY.f k l0_2).bind fun t104=>((XaW.f k a0_3 l0_4).bind fun bt107=>(some (a0_0,a0_1,t104,bt107.1,bt107.2)))
theorem Xbf.calls (k:Nat) (a0_0:Int) (a0_1:Int) (A0_2:Option Addr) (c0_2:Nat) (l0_2:List (S224)) (a0_3:Int) (A0_4:Option Addr) (c0_4:Nat) (l0_4:List Int) (r1:Int) (r2:Int) (r3:List (S165)) (r4:Int) (r5:List Int) (w:World) (h0_2:Rw k224 w A0_2 c0_2 l0_2) (h0_4:Rw (Kd.int .i64) w A0_4 c0_4 l0_4) (h:Xbf.f k a0_0 a0_1 l0_2 a0_3 l0_4=some (r1,r2,r3,r4,r5)) :
  Calls Tryz.prog 165 #[.agg #[.int .i64 a0_0,.int .i64 a0_1,.slice A0_2 l0_2.length c0_2,.int .i64 a0_3,.slice A0_4 l0_4.length c0_4]] w fun e w'=>∃ v2_ v4_:Value,e = .returned (.agg #[.int .i64 r1,.int .i64 r2,v2_,.int .i64 r4,v4_])∧Kd.R k165 165 w' w.heap.size (fun _=>True) v2_ r3∧Kd.R (Kd.int .i64) 3 w' w.heap.size (fun _=>True) v4_ r5∧Below w.heap.size w w':=by
 have hu155:=Tryz.underlying155
 have hu162:=Tryz.underlying162
 have hu117:=Tryz.underlying117
 have hu71:=Tryz.underlying71
 obtain⟨HR0_2,HC0_2⟩:=h0_2
 obtain⟨HR0_4,HC0_4⟩:=h0_4
 have HB:=aM (Below.refl w.heap.size w)
 have H:=h
 unfold Xbf.f at H
 clear h
 replace H:=bE H;obtain⟨t104,A2,H⟩:=H
 replace H:=bE H;obtain⟨⟨t107,t108⟩,A3,H⟩:=H
 try dsimp only at H
 simp only[Option.some.injEq,Prod.mk.injEq] at H
 obtain⟨rfl,rfl,rfl,rfl,rfl⟩:=H
 go_enter Tryz.func165,Tryz.ntmps165
 go_wp2_with (first | (refine boxE 1 #[.int .i64 a0_0,.int .i64 a0_1,.slice A0_2 l0_2.length c0_2,.int .i64 a0_3,.slice A0_4 l0_4.length c0_4] 155 ?_;intro gbz1 hg wz1 hbox hb;have BKz1:=aM (hbox);have GWz1:=aG hg HB;replace HB:=aS HB hb;clear hb hbox hg) | (refine boxE 2 #[.int .i64 0,.int .i64 0,.slice none 0 0,.int .i64 0,.slice none 0 0] 162 ?_;intro gbz2 hg wz2 hbox hb;have BKz2:=aM (hbox);have GWz2:=aG hg HB;have NBz1:=aL hg BKz1;have NBz2:=aR hg BKz1;replace BKz1:=aB BKz1 hb;replace HB:=aS HB hb;clear hb hbox hg) | (refine boxE 3 #[.int .i64 0,.int .i64 0,.slice none 0 0,.int .i64 0,.slice none 0 0] 162 ?_;intro gbz3 hg wz3 hbox hb;have BKz3:=aM (hbox);have GWz3:=aG hg HB;have NBz3:=aL hg BKz1;have NBz4:=aR hg BKz1;have NBz5:=aL hg BKz2;have NBz6:=aR hg BKz2;replace BKz1:=aB BKz1 hb;replace BKz2:=aB BKz2 hb;replace HB:=aS HB hb;clear hb hbox hg;have hnbz1:=nB NBz1 NBz2;have hnbz2:=nB NBz3 NBz4;have hczz1:=cZ5 BKz1.out;have hnbz3:=nB NBz6 NBz5;have hczz6:=cZ5 BKz3.out) | (refine goesM 205 12 Tryz.func205 #[.slice A0_2 l0_2.length c0_2] ?_;refine(XY.calls _ _ _ _ _ _ (rW HR0_2 HB HC0_2) A2.out).mono ?_;rintro e wz4 ⟨vz1,rfl,hoz1,hb⟩;refine⟨_,rfl,?_⟩;have HOz1:=aM (Kd.R_lower hoz1 (below_size (hX HB.out)));replace BKz1:=aF BKz1 hb;replace BKz2:=aF BKz2 hb;replace BKz3:=aM (blk_below (g:=gbz3) (o:=.cells #[.int .i64 a0_0,.int .i64 a0_1,.slice none 0 0,.int .i64 0,.slice none 0 0] 162 (0,0)) (bP BKz3.out) hb);replace HB:=aS HB hb;clear hb hoz1;obtain⟨Aoz1,coz1,eoz1⟩:=Kd.R_slice HOz1.out;subst eoz1;have hczz11:=cZ5 BKz3.out;have hczz16:=cZ5 BKz1.out) | (refine goesM 168 16 Tryz.func168 #[.agg #[.int .i64 a0_3,.slice A0_4 l0_4.length c0_4]] ?_;refine(XaW.calls _ _ _ _ _ _ _ _ (rW HR0_4 HB HC0_4) A3.out).mono ?_;rintro e wz5 ⟨vz2,rfl,hoz1,hb⟩;refine⟨_,rfl,?_⟩;have HOz2:=aM (Kd.R_lower hoz1 (below_size (hX HB.out)));replace HOz1:=aM (Kd.R_below (rF HOz1.out BKz3.out) hb);replace BKz1:=aF BKz1 hb;replace BKz2:=aF BKz2 hb;replace BKz3:=aM (blk_below (g:=gbz3) (o:=.cells #[.int .i64 a0_0,.int .i64 a0_1,.slice Aoz1 t104.length coz1,.int .i64 0,.slice none 0 0] 162 (0,0)) (bP BKz3.out) hb);replace HB:=aS HB hb;clear hb hoz1;have hczz21:=cZ5 BKz3.out;obtain⟨Aoz2,coz2,eoz2⟩:=Kd.R_slice HOz2.out;subst eoz2;have hczz26:=cZ5 BKz2.out))
 refine bodyPost_ret (results_cell_row rfl _ _ gbz2 162 #[.int .i64 a0_0,.int .i64 a0_1,.slice Aoz1 t104.length coz1,.int .i64 t107,.slice Aoz2 t108.length coz2] (0,0) _ rfl (bP BKz2.out) Tryz.underlying162 rfl (by kernel_rfl)) rfl ?_
 exact⟨_,_,rE,(Kd.R_mono (rF2 HOz1.out BKz3.out BKz2.out) (fun _ hk=>trivial)),(Kd.R_mono (rF2 HOz2.out BKz3.out BKz2.out) (fun _ hk=>trivial)),(hX HB.out)⟩
def XaV.f (k:Nat) (l0_0:List (S116)) (a0_1:Int) (a0_2:Bool) (l0_3:List (S204)) (l0_4:List (S206)):Option ((List (S69)) × Int × Bool × (List (S172)) × (List (S174))):=(Xaj.f k l0_0).bind fun t104=>((X6.f k l0_3).bind fun t107=>((X7.f k l0_4).bind fun t110=>(some (t104,a0_1,a0_2,t107,t110))))
theorem XaV.calls (k:Nat) (A0_0:Option Addr) (c0_0:Nat) (l0_0:List (S116)) (a0_1:Int) (a0_2:Bool) (A0_3:Option Addr) (c0_3:Nat) (l0_3:List (S204)) (A0_4:Option Addr) (c0_4:Nat) (l0_4:List (S206)) (r1:List (S69)) (r2:Int) (r3:Bool) (r4:List (S172)) (r5:List (S174)) (w:World) (h0_0:Rw k116 w A0_0 c0_0 l0_0) (h0_3:Rw k204 w A0_3 c0_3 l0_3) (h0_4:Rw k206 w A0_4 c0_4 l0_4) (h:XaV.f k l0_0 a0_1 a0_2 l0_3 l0_4=some (r1,r2,r3,r4,r5)) :
  Calls Tryz.prog 99 #[.agg #[.slice A0_0 l0_0.length c0_0,.int .i64 a0_1,.bool a0_2,.slice A0_3 l0_3.length c0_3,.slice A0_4 l0_4.length c0_4]] w fun e w'=>∃ v0_ v3_ v4_:Value,e = .returned (.agg #[v0_,.int .i64 r2,.bool r3,v3_,v4_])∧Kd.R k69 69 w' w.heap.size (fun _=>True) v0_ r1∧Kd.R k172 172 w' w.heap.size (fun _=>True) v3_ r4∧Kd.R k174 174 w' w.heap.size (fun _=>True) v4_ r5∧Below w.heap.size w w':=by
 have hu114:=Tryz.underlying114
 have hu97:=Tryz.underlying97
 obtain⟨HR0_0,HC0_0⟩:=h0_0
 obtain⟨HR0_3,HC0_3⟩:=h0_3
 obtain⟨HR0_4,HC0_4⟩:=h0_4
 have HB:=aM (Below.refl w.heap.size w)
 have H:=h
 unfold XaV.f at H
 clear h
 replace H:=bE H;obtain⟨t104,A2,H⟩:=H
 replace H:=bE H;obtain⟨t107,A3,H⟩:=H
 replace H:=bE H;obtain⟨t110,A4,H⟩:=H
 simp only[Option.some.injEq,Prod.mk.injEq] at H
 obtain⟨rfl,rfl,rfl,rfl,rfl⟩:=H
 go_enter Tryz.func99,Tryz.ntmps99
 go_wp2_with (first | (refine boxE 1 #[.slice A0_0 l0_0.length c0_0,.int .i64 a0_1,.bool a0_2,.slice A0_3 l0_3.length c0_3,.slice A0_4 l0_4.length c0_4] 114 ?_;intro gbz1 hg wz1 hbox hb;have BKz1:=aM (hbox);have GWz1:=aG hg HB;replace HB:=aS HB hb;clear hb hbox hg) | (refine boxE 2 #[.slice none 0 0,.int .i64 0,.bool false,.slice none 0 0,.slice none 0 0] 97 ?_;intro gbz2 hg wz2 hbox hb;have BKz2:=aM (hbox);have GWz2:=aG hg HB;have NBz1:=aL hg BKz1;have NBz2:=aR hg BKz1;replace BKz1:=aB BKz1 hb;replace HB:=aS HB hb;clear hb hbox hg) | (refine boxE 3 #[.slice none 0 0,.int .i64 0,.bool false,.slice none 0 0,.slice none 0 0] 97 ?_;intro gbz3 hg wz3 hbox hb;have BKz3:=aM (hbox);have GWz3:=aG hg HB;have NBz3:=aL hg BKz1;have NBz4:=aR hg BKz1;have NBz5:=aL hg BKz2;have NBz6:=aR hg BKz2;replace BKz1:=aB BKz1 hb;replace BKz2:=aB BKz2 hb;replace HB:=aS HB hb;clear hb hbox hg;have hnbz1:=nB NBz1 NBz2;have hnbz2:=nB NBz3 NBz4;have hczz1:=cZ5 BKz1.out) | (refine goesM 66 6 Tryz.func66 #[.slice A0_0 l0_0.length c0_0] ?_;refine(Xaj.calls _ _ _ _ _ _ (rW HR0_0 HB HC0_0) A2.out).mono ?_;rintro e wz4 ⟨vz1,rfl,hoz1,hb⟩;refine⟨_,rfl,?_⟩;have HOz1:=aM (Kd.R_lower hoz1 (below_size (hX HB.out)));replace BKz1:=aB BKz1 hb;replace BKz2:=aB BKz2 hb;replace BKz3:=aB BKz3 hb;replace HB:=aS HB hb;clear hb hoz1;obtain⟨Aoz1,coz1,eoz1⟩:=Kd.R_slice HOz1.out;subst eoz1;have hnbz3:=nB NBz6 NBz5;have hczz6:=cZ5 BKz3.out;have hczz11:=cZ5 BKz1.out) | (refine goesM 166 16 Tryz.func166 #[.slice A0_3 l0_3.length c0_3] ?_;refine(X6.calls _ _ _ _ _ _ (rW HR0_3 HB HC0_3) A3.out).mono ?_;rintro e wz5 ⟨vz2,rfl,hoz1,hb⟩;refine⟨_,rfl,?_⟩;have HOz2:=aM (Kd.R_lower hoz1 (below_size (hX HB.out)));replace HOz1:=aM (Kd.R_below (rF HOz1.out BKz3.out) hb);replace BKz1:=aF BKz1 hb;replace BKz2:=aF BKz2 hb;replace BKz3:=aM (blk_below (g:=gbz3) (o:=.cells #[.slice Aoz1 t104.length coz1,.int .i64 a0_1,.bool a0_2,.slice none 0 0,.slice none 0 0] 97 (0,0)) (bP BKz3.out) hb);replace HB:=aS HB hb;clear hb hoz1;obtain⟨Aoz2,coz2,eoz2⟩:=Kd.R_slice HOz2.out;subst eoz2;have hczz16:=cZ5 BKz3.out;have hczz21:=cZ5 BKz1.out) | (refine goesM 167 20 Tryz.func167 #[.slice A0_4 l0_4.length c0_4] ?_;refine(X7.calls _ _ _ _ _ _ (rW HR0_4 HB HC0_4) A4.out).mono ?_;rintro e wz6 ⟨vz3,rfl,hoz1,hb⟩;refine⟨_,rfl,?_⟩;have HOz3:=aM (Kd.R_lower hoz1 (below_size (hX HB.out)));replace HOz1:=aM (Kd.R_below (rF HOz1.out BKz3.out) hb);replace HOz2:=aM (Kd.R_below (rF HOz2.out BKz3.out) hb);replace BKz1:=aF BKz1 hb;replace BKz2:=aF BKz2 hb;replace BKz3:=aM (blk_below (g:=gbz3) (o:=.cells #[.slice Aoz1 t104.length coz1,.int .i64 a0_1,.bool a0_2,.slice Aoz2 t107.length coz2,.slice none 0 0] 97 (0,0)) (bP BKz3.out) hb);replace HB:=aS HB hb;clear hb hoz1;obtain⟨Aoz3,coz3,eoz3⟩:=Kd.R_slice HOz3.out;subst eoz3;have hczz26:=cZ5 BKz3.out;have hczz31:=cZ5 BKz2.out))
 refine bodyPost_ret (results_cell_row rfl _ _ gbz2 97 #[.slice Aoz1 t104.length coz1,.int .i64 a0_1,.bool a0_2,.slice Aoz2 t107.length coz2,.slice Aoz3 t110.length coz3] (0,0) _ rfl (bP BKz2.out) Tryz.underlying97 rfl (by kernel_rfl)) rfl ?_
 exact⟨_,_,_,rE,(Kd.R_mono (rF2 HOz1.out BKz3.out BKz2.out) (fun _ hk=>trivial)),(Kd.R_mono (rF2 HOz2.out BKz3.out BKz2.out) (fun _ hk=>trivial)),(Kd.R_mono (rF2 HOz3.out BKz3.out BKz2.out) (fun _ hk=>trivial)),(hX HB.out)⟩
def Xbg.f (k:Nat) (a0_0:Int) (a0_1:Int) (a0_2:Int) (a0_3:Int) (a0_4:Int) (a0_5:Int) (a0_6:Int) (a0_7:Int) (l0_8:List Int):Option (Int × Int × Int × Int × Int × Int × Int × Int × List Int):=(Xa6.f a0_1 a0_2 a0_3).bind fun bt104=>((XaW.f k a0_7 l0_8).bind fun bt107=>(some (a0_0,bt104.1,bt104.2.1,bt104.2.2,a0_4,a0_5,a0_6,bt107.1,bt107.2)))
theorem Xbg.calls (k:Nat) (a0_0:Int) (a0_1:Int) (a0_2:Int) (a0_3:Int) (a0_4:Int) (a0_5:Int) (a0_6:Int) (a0_7:Int) (A0_8:Option Addr) (c0_8:Nat) (l0_8:List Int) (r1:Int) (r2:Int) (r3:Int) (r4:Int) (r5:Int) (r6:Int) (r7:Int) (r8:Int) (r9:List Int) (w:World) (h0_8:Rw (Kd.int .i64) w A0_8 c0_8 l0_8) (h:Xbg.f k a0_0 a0_1 a0_2 a0_3 a0_4 a0_5 a0_6 a0_7 l0_8=some (r1,r2,r3,r4,r5,r6,r7,r8,r9)) :
  Calls Tryz.prog 100 #[.agg #[.int .i64 a0_0,.int .i64 a0_1,.int .i64 a0_2,.int .i64 a0_3,.int .i64 a0_4,.int .i64 a0_5,.int .i64 a0_6,.int .i64 a0_7,.slice A0_8 l0_8.length c0_8]] w fun e w'=>∃ v8_:Value,e = .returned (.agg #[.int .i64 r1,.int .i64 r2,.int .i64 r3,.int .i64 r4,.int .i64 r5,.int .i64 r6,.int .i64 r7,.int .i64 r8,v8_])∧Kd.R (Kd.int .i64) 3 w' w.heap.size (fun _=>True) v8_ r9∧Below w.heap.size w w':=by
 have hu119:=Tryz.underlying119
 have hu73:=Tryz.underlying73
 have hu116:=Tryz.underlying116
 have hu69:=Tryz.underlying69
 have hu117:=Tryz.underlying117
 have hu71:=Tryz.underlying71
 obtain⟨HR0_8,HC0_8⟩:=h0_8
 have HB:=aM (Below.refl w.heap.size w)
 have H:=h
 unfold Xbg.f at H
 clear h
 replace H:=bE H;obtain⟨⟨t104,t105,t106⟩,A2,H⟩:=H
 try dsimp only at H
 replace H:=bE H;obtain⟨⟨t107,t108⟩,A3,H⟩:=H
 try dsimp only at H
 simp only[Option.some.injEq,Prod.mk.injEq] at H
 obtain⟨rfl,rfl,rfl,rfl,rfl,rfl,rfl,rfl,rfl⟩:=H
 go_enter Tryz.func100,Tryz.ntmps100
 go_wp2_with (first | (refine boxE 1 #[.int .i64 a0_0,.int .i64 a0_1,.int .i64 a0_2,.int .i64 a0_3,.int .i64 a0_4,.int .i64 a0_5,.int .i64 a0_6,.int .i64 a0_7,.slice A0_8 l0_8.length c0_8] 119 ?_;intro gbz1 hg wz1 hbox hb;have BKz1:=aM (hbox);have GWz1:=aG hg HB;replace HB:=aS HB hb;clear hb hbox hg) | (refine boxE 2 #[.int .i64 0,.int .i64 0,.int .i64 0,.int .i64 0,.int .i64 0,.int .i64 0,.int .i64 0,.int .i64 0,.slice none 0 0] 73 ?_;intro gbz2 hg wz2 hbox hb;have BKz2:=aM (hbox);have GWz2:=aG hg HB;have NBz1:=aL hg BKz1;have NBz2:=aR hg BKz1;replace BKz1:=aB BKz1 hb;replace HB:=aS HB hb;clear hb hbox hg) | (refine boxE 3 #[.int .i64 0,.int .i64 0,.int .i64 0,.int .i64 0,.int .i64 0,.int .i64 0,.int .i64 0,.int .i64 0,.slice none 0 0] 73 ?_;intro gbz3 hg wz3 hbox hb;have BKz3:=aM (hbox);have GWz3:=aG hg HB;have NBz3:=aL hg BKz1;have NBz4:=aR hg BKz1;have NBz5:=aL hg BKz2;have NBz6:=aR hg BKz2;replace BKz1:=aB BKz1 hb;replace BKz2:=aB BKz2 hb;replace HB:=aS HB hb;clear hb hbox hg;have hnbz1:=nB NBz1 NBz2;have hnbz2:=nB NBz3 NBz4;have hczz1:=cZ9 BKz1.out;have hnbz3:=nB NBz6 NBz5;have hczz10:=cZ9 BKz3.out) | (refine gB 126 9 Tryz.func126 (Xa6.calls _ _ _ _ _ _ _ A2.out) ?_;intro wz4 hb;replace BKz1:=aF BKz1 hb;replace BKz2:=aF BKz2 hb;replace BKz3:=aM (blk_below (g:=gbz3) (o:=.cells #[.int .i64 a0_0,.int .i64 0,.int .i64 0,.int .i64 0,.int .i64 0,.int .i64 0,.int .i64 0,.int .i64 0,.slice none 0 0] 73 (0,0)) (bP BKz3.out) hb);replace HB:=aS HB hb;clear hb;have hczz19:=cZ9 BKz3.out;have hczz28:=cZ9 BKz1.out) | (refine goesM 168 22 Tryz.func168 #[.agg #[.int .i64 a0_7,.slice A0_8 l0_8.length c0_8]] ?_;refine(XaW.calls k a0_7 _ _ l0_8 t107 t108 _ (rW HR0_8 HB HC0_8) A3.out).mono ?_;rintro e wz5 ⟨vz1,rfl,hoz1,hb⟩;refine⟨_,rfl,?_⟩;have HOz1:=aM (Kd.R_lower hoz1 (below_size (hX HB.out)));replace BKz1:=aF BKz1 hb;replace BKz2:=aF BKz2 hb;replace BKz3:=aM (blk_below (g:=gbz3) (o:=.cells #[.int .i64 a0_0,.int .i64 t104,.int .i64 t105,.int .i64 t106,.int .i64 a0_4,.int .i64 a0_5,.int .i64 a0_6,.int .i64 0,.slice none 0 0] 73 (0,0)) (bP BKz3.out) hb);replace HB:=aS HB hb;clear hb hoz1;have hczz37:=cZ9 BKz3.out;obtain⟨Aoz1,coz1,eoz1⟩:=Kd.R_slice HOz1.out;subst eoz1;have hczz46:=cZ9 BKz2.out))
 refine bodyPost_ret (results_cell_row rfl _ _ gbz2 73 #[.int .i64 a0_0,.int .i64 t104,.int .i64 t105,.int .i64 t106,.int .i64 a0_4,.int .i64 a0_5,.int .i64 a0_6,.int .i64 t107,.slice Aoz1 t108.length coz1] (0,0) _ rfl (bP BKz2.out) Tryz.underlying73 rfl (by kernel_rfl)) rfl ?_
 exact⟨_,rE,(Kd.R_mono (rF2 HOz1.out BKz3.out BKz2.out) (fun _ hk=>trivial)),(hX HB.out)⟩
def Xbn.f (k:Nat) (l0:List (S140)) (l1:List (S162)) (a1:Int):Option (Int × List (S140) × List (S162)):=(Xam.f k l0 a1).bind fun t1=>((Xap.f k l1 t1.1).bind fun t2=>(some (t2.1,t1.2,t2.2)))
theorem Xbn.calls (k:Nat) (okW okD:Nat→Prop) (vW vD:Value) (l0:List (S140)) (l1:List (S162)) (a1:Int) (r1:Int) (r2:List (S140)) (r3:List (S162)) (w0 w:World) (hB:Below w0.heap.size w0 w) (hW:Kd.R k140 140 w w0.heap.size okW vW l0) (hD:Kd.S k162 162 w w0.heap.size okD vD l1) (H:Xbn.f k l0 l1 a1=some (r1,r2,r3)) :
  Calls Tryz.prog 73 #[.agg #[vW,vD],.int .i64 a1] w fun e w'=>e = .returned (.int .i64 r1)∧Kd.R k140 140 w' w0.heap.size okW vW r2∧Kd.S k162 162 w' w0.heap.size okD vD r3∧Below w0.heap.size w0 w'∧Kept w w' (fun k=>some k=vW.ownBlock ∨ okD k):=by
 have hu38:=Tryz.underlying38
 have HW:=aM hW
 have HD:=aM (Deep.S_ty (l:=[162,165,3]) hD)
 have hWt:=aM (Deep.own_ty hW)
 have HB:=aM hB
 clear hB hW hD
 unfold Xbn.f at H
 replace H:=bE H;obtain⟨⟨t1,t2⟩,A1,H⟩:=H
 replace H:=bE H;obtain⟨⟨t3,t4⟩,A2,H⟩:=H
 simp only[Option.some.injEq,Prod.mk.injEq] at H
 obtain⟨rfl,rfl,rfl⟩:=H
 obtain⟨Ao1,co1,eo1⟩:=Kd.R_slice HW.out
 subst eo1
 obtain⟨Ao2,co2,eo2⟩:=Kd.S_slice HD.out
 subst eo2
 go_enter Tryz.func73,Tryz.ntmps73
 go_wp2_with (first | (refine boxE 2 #[.slice Ao1 l0.length co1,.slice Ao2 l1.length co2] 38 ?_;intro gbz1 hg wz1 hbox hb;have BKz1:=aM (hbox);have GEz1:=aG hg HB;have hgw:=aM (show w.heap.size≤gbz1 from Nat.le_of_eq hg.symm);replace HW:=aQ HW hb;replace HD:=aT HD hb;have HK:=aM (Kept.of_below hb (fun k=>some k=(Value.slice Ao1 l0.length co1).ownBlock ∨ okD k));replace HB:=aS HB hb;clear hb hbox hg;have hczz1:=cZ2 BKz1.out) | ((with_reducible refine gate_callee (f:=129) rfl ?_);refine goesM 129 8 Tryz.func129 #[.slice Ao1 l0.length co1,.int .i64 a1] ?_;refine(Xam.calls k (fun k_=>some k_=(.slice Ao1 l0.length co1:Value).ownBlock) (.slice Ao1 l0.length co1) l0 a1 t1 t2 w0 _ (hX HB.out) (by exact Kd.R_tight rfl HW.out) A1.out).mono ?_;rintro e wz2 ⟨rfl,hyz1,hb,hkp⟩;refine⟨_,rfl,?_⟩;replace BKz1:=aM (blk_kept (bX BKz1.out) hkp (fun e_=>(Kd.R_ne HW.out BKz1.out (by decide)) e_));replace HK:=aM (Kept.then_ HK.out hkp (fun k_ e_ => .inl (.inl e_)));replace HD:=aM (Kd.S_kept HD.out hkp (fun k_ h1_ e_=>Deep.Ty_no (l:=[162,165,3]) h1_.2 (hWt.out k_ e_.symm) (by decide)));replace HW:=aM (Kd.R_reok rfl hyz1 (fun k_ e_=>HW.out.1 k_ e_));replace HB:=aM hb;clear hb hkp hyz1;have hczz2:=cZ2 BKz1.out) | ((with_reducible refine gate_callee (f:=130) rfl ?_);refine goesM 130 12 Tryz.func130 #[.slice Ao2 l1.length co2,.int .i64 t1] ?_;refine(Xap.calls k (fun k_=>okD k_∧Deep.Ty w k_ [162,165,3]) (.slice Ao2 l1.length co2) l1 t1 t3 t4 w0 _ (hX HB.out) (sX HD.out) A2.out).mono ?_;rintro e wz3 ⟨rfl,hyz1,hb,hkp⟩;refine⟨_,rfl,?_⟩;replace HK:=aM (Kept.then_ HK.out hkp (fun k_ e_ => .inl (.inr e_.1)));replace HW:=aM (Kd.R_reok rfl (Kd.R_kept (Kd.R_tight rfl HW.out) hkp (fun k_ h1_ h2_=>Deep.Ty_no (l:=[162,165,3]) h2_.2 (hWt.out k_ h1_.symm) (by decide))) (fun k_ e_=>HW.out.1 k_ e_));replace HD:=aM hyz1;replace HB:=aM hb;clear hb hkp hyz1))
 go_ret
 exact⟨rE,(rX HW.out),sX (Kd.S_mono HD.out (fun _ hk=>hk.1)),(hX HB.out),HK.out⟩
def XaY.f (k:Nat) (a0_0:Int) (a0_1:Int) (l0_2:List (S165)) (a0_3:Int) (l0_4:List Int) (a1_0:Int) (a1_1:Int) (l1_2:List (S165)) (a1_3:Int) (l1_4:List Int):Option (Bool):=if a0_0=a1_0 then (if a0_1=a1_1 then ((Xs.f k l0_2 l1_2).bind fun t103=>(if t103=true then ((XaN.f k a0_3 l0_4 a1_3 l1_4).bind fun t104=>(if t104=true then (some true) else (some false))) else (some false))) else (some false)) else (some false)
theorem XaY.calls (k:Nat) (a0_0:Int) (a0_1:Int) (A0_2:Option Addr) (c0_2:Nat) (l0_2:List (S165)) (a0_3:Int) (A0_4:Option Addr) (c0_4:Nat) (l0_4:List Int) (a1_0:Int) (a1_1:Int) (A1_2:Option Addr) (c1_2:Nat) (l1_2:List (S165)) (a1_3:Int) (A1_4:Option Addr) (c1_4:Nat) (l1_4:List Int) (r:Bool) (w:World) (h0_2:Rw k165 w A0_2 c0_2 l0_2) (h0_4:Rw (Kd.int .i64) w A0_4 c0_4 l0_4) (h1_2:Rw k165 w A1_2 c1_2 l1_2) (h1_4:Rw (Kd.int .i64) w A1_4 c1_4 l1_4) (H:XaY.f k a0_0 a0_1 l0_2 a0_3 l0_4 a1_0 a1_1 l1_2 a1_3 l1_4=some r) :
  Calls Tryz.prog 187 #[.agg #[.int .i64 a0_0,.int .i64 a0_1,.slice A0_2 l0_2.length c0_2,.int .i64 a0_3,.slice A0_4 l0_4.length c0_4],.agg #[.int .i64 a1_0,.int .i64 a1_1,.slice A1_2 l1_2.length c1_2,.int .i64 a1_3,.slice A1_4 l1_4.length c1_4]] w fun e w'=>e = .returned (.bool r)∧Below w.heap.size w w':=by
 have hu162:=Tryz.underlying162
 have hu71:=Tryz.underlying71
 obtain⟨HR0_2,HC0_2⟩:=h0_2
 obtain⟨HR0_4,HC0_4⟩:=h0_4
 obtain⟨HR1_2,HC1_2⟩:=h1_2
 obtain⟨HR1_4,HC1_4⟩:=h1_4
 have HB:=aM (Below.refl w.heap.size w)
 unfold XaY.f at H
 go_enter Tryz.func187,Tryz.ntmps187
 go_wp2_with (first | (refine boxE 2 #[.int .i64 a0_0,.int .i64 a0_1,.slice A0_2 l0_2.length c0_2,.int .i64 a0_3,.slice A0_4 l0_4.length c0_4] 162 ?_;intro gbz1 hg wz1 hbox hb;have BKz1:=aM (hbox);have GWz1:=aG hg HB;replace HB:=aS HB hb;clear hb hbox hg) | (refine boxE 3 #[.int .i64 a1_0,.int .i64 a1_1,.slice A1_2 l1_2.length c1_2,.int .i64 a1_3,.slice A1_4 l1_4.length c1_4] 162 ?_;intro gbz2 hg wz2 hbox hb;have BKz2:=aM (hbox);have GWz2:=aG hg HB;have NBz1:=aL hg BKz1;have NBz2:=aR hg BKz1;replace BKz1:=aB BKz1 hb;replace HB:=aS HB hb;clear hb hbox hg;have hnbz1:=nB NBz1 NBz2;have hczz1:=cZ5 BKz1.out;have hczz6:=cZ5 BKz2.out;refine Stop.out ?_))
 refine⟨?_⟩
 revert H;refine eN ?_ ?_<;>intro c3b0 c3b1 H
 ·obtain rfl:=sI H
  exact fS
 revert H;refine eN ?_ ?_<;>intro c4b0 c4b1 H
 ·obtain rfl:=sI H
  exact fS
 replace H:=bE H;obtain⟨t103,A5,H⟩:=H
 cases t103
 case false =>
  rw[if_neg nft] at H
  obtain rfl:=sI H
  go_wp2_with (refine gB 213 19 Tryz.func213 (Xs.calls _ _ _ _ _ _ _ _ _ (rW HR0_2 HB HC0_2) (rW HR1_2 HB HC1_2) A5.out) ?_;intro wz3 hb;replace BKz1:=aB BKz1 hb;replace BKz2:=aB BKz2 hb;replace HB:=aS HB hb;clear hb)
  go_ret
  exact⟨rE,(hX HB.out)⟩
 rw[if_pos rfl] at H
 replace H:=bE H;obtain⟨t104,A7,H⟩:=H
 go_wp2_with (refine gB 213 19 Tryz.func213 (Xs.calls _ _ _ _ _ _ _ _ _ (rW HR0_2 HB HC0_2) (rW HR1_2 HB HC1_2) A5.out) ?_;intro wz3 hb;replace BKz1:=aB BKz1 hb;replace BKz2:=aB BKz2 hb;replace HB:=aS HB hb;clear hb;have hczz11:=cZ5 BKz1.out;have hczz16:=cZ5 BKz2.out;refine Stop.out ?_)
 refine⟨?_⟩
 cases t104
 case true =>
  rw[if_pos rfl] at H
  obtain rfl:=sI H
  go_wp2_with (refine gB 190 25 Tryz.func190 (XaN.calls _ _ _ _ _ _ _ _ _ _ _ (rW HR0_4 HB HC0_4) (rW HR1_4 HB HC1_4) A7.out) ?_;intro wz4 hb;replace BKz1:=aB BKz1 hb;replace BKz2:=aB BKz2 hb;replace HB:=aS HB hb;clear hb)
  go_ret
  exact⟨rE,(hX HB.out)⟩
 rw[if_neg nft] at H
 obtain rfl:=sI H
 go_wp2_with (refine gB 190 25 Tryz.func190 (XaN.calls _ _ _ _ _ _ _ _ _ _ _ (rW HR0_4 HB HC0_4) (rW HR1_4 HB HC1_4) A7.out) ?_;intro wz4 hb;replace BKz1:=aB BKz1 hb;replace BKz2:=aB BKz2 hb;replace HB:=aS HB hb;clear hb)
 go_ret
 exact⟨rE,(hX HB.out)⟩
def XaO.f (k:Nat) (l0_0:List (S69)) (a0_1:Int) (a0_2:Bool) (l0_3:List (S172)) (l0_4:List (S174)) (l1_0:List (S69)) (a1_1:Int) (a1_2:Bool) (l1_3:List (S172)) (l1_4:List (S174)):Option (Bool):=(XL.f k l0_0 l1_0).bind fun t103=>(if t103=true then (if a0_1=a1_1 then (if (a0_2 != a1_2)=true then (some false) else ((Xw.f k l0_3 l1_3).bind fun t104=>(if t104=true then ((Xx.f k l0_4 l1_4).bind fun t105=>(if t105=true then (some true) else (some false))) else (some false)))) else (some false)) else (some false))
theorem XaO.calls (k:Nat) (A0_0:Option Addr) (c0_0:Nat) (l0_0:List (S69)) (a0_1:Int) (a0_2:Bool) (A0_3:Option Addr) (c0_3:Nat) (l0_3:List (S172)) (A0_4:Option Addr) (c0_4:Nat) (l0_4:List (S174)) (A1_0:Option Addr) (c1_0:Nat) (l1_0:List (S69)) (a1_1:Int) (a1_2:Bool) (A1_3:Option Addr) (c1_3:Nat) (l1_3:List (S172)) (A1_4:Option Addr) (c1_4:Nat) (l1_4:List (S174)) (r:Bool) (w:World) (h0_0:Rw k69 w A0_0 c0_0 l0_0) (h0_3:Rw k172 w A0_3 c0_3 l0_3) (h0_4:Rw k174 w A0_4 c0_4 l0_4) (h1_0:Rw k69 w A1_0 c1_0 l1_0) (h1_3:Rw k172 w A1_3 c1_3 l1_3) (h1_4:Rw k174 w A1_4 c1_4 l1_4) (H:XaO.f k l0_0 a0_1 a0_2 l0_3 l0_4 l1_0 a1_1 a1_2 l1_3 l1_4=some r) :
  Calls Tryz.prog 111 #[.agg #[.slice A0_0 l0_0.length c0_0,.int .i64 a0_1,.bool a0_2,.slice A0_3 l0_3.length c0_3,.slice A0_4 l0_4.length c0_4],.agg #[.slice A1_0 l1_0.length c1_0,.int .i64 a1_1,.bool a1_2,.slice A1_3 l1_3.length c1_3,.slice A1_4 l1_4.length c1_4]] w fun e w'=>e = .returned (.bool r)∧Below w.heap.size w w':=by
 have hu97:=Tryz.underlying97
 obtain⟨HR0_0,HC0_0⟩:=h0_0
 obtain⟨HR0_3,HC0_3⟩:=h0_3
 obtain⟨HR0_4,HC0_4⟩:=h0_4
 obtain⟨HR1_0,HC1_0⟩:=h1_0
 obtain⟨HR1_3,HC1_3⟩:=h1_3
 obtain⟨HR1_4,HC1_4⟩:=h1_4
 have HB:=aM (Below.refl w.heap.size w)
 unfold XaO.f at H
 replace H:=bE H;obtain⟨t103,A3,H⟩:=H
 go_enter Tryz.func111,Tryz.ntmps111
 go_wp2_with (first | (refine boxE 2 #[.slice A0_0 l0_0.length c0_0,.int .i64 a0_1,.bool a0_2,.slice A0_3 l0_3.length c0_3,.slice A0_4 l0_4.length c0_4] 97 ?_;intro gbz1 hg wz1 hbox hb;have BKz1:=aM (hbox);have GWz1:=aG hg HB;replace HB:=aS HB hb;clear hb hbox hg) | (refine boxE 3 #[.slice A1_0 l1_0.length c1_0,.int .i64 a1_1,.bool a1_2,.slice A1_3 l1_3.length c1_3,.slice A1_4 l1_4.length c1_4] 97 ?_;intro gbz2 hg wz2 hbox hb;have BKz2:=aM (hbox);have GWz2:=aG hg HB;have NBz1:=aL hg BKz1;have NBz2:=aR hg BKz1;replace BKz1:=aB BKz1 hb;replace HB:=aS HB hb;clear hb hbox hg;have hnbz1:=nB NBz1 NBz2;have hczz1:=cZ5 BKz1.out;have hczz6:=cZ5 BKz2.out;refine Stop.out ?_))
 refine⟨?_⟩
 cases t103
 case false =>
  rw[if_neg nft] at H
  obtain rfl:=sI H
  go_wp2_with (refine gB 70 9 Tryz.func70 (XL.calls _ _ _ _ _ _ _ _ _ (rW HR0_0 HB HC0_0) (rW HR1_0 HB HC1_0) A3.out) ?_;intro wz3 hb;replace BKz1:=aB BKz1 hb;replace BKz2:=aB BKz2 hb;replace HB:=aS HB hb;clear hb)
  go_ret
  exact⟨rE,(hX HB.out)⟩
 rw[if_pos rfl] at H
 go_wp2_with (refine gB 70 9 Tryz.func70 (XL.calls _ _ _ _ _ _ _ _ _ (rW HR0_0 HB HC0_0) (rW HR1_0 HB HC1_0) A3.out) ?_;intro wz3 hb;replace BKz1:=aB BKz1 hb;replace BKz2:=aB BKz2 hb;replace HB:=aS HB hb;clear hb;have hczz11:=cZ5 BKz1.out;have hczz16:=cZ5 BKz2.out;refine Stop.out ?_)
 refine⟨?_⟩
 revert H;refine eN ?_ ?_<;>intro c5b0 c5b1 H
 ·obtain rfl:=sI H
  exact fS
 by_cases c6:(a0_2 != a1_2)=true
 ·rw[if_pos c6] at H
  have c6b0:(a0_2 != a1_2)=true:=c6
  (try (have c6b1:decide (a0_2=a1_2)=false:=by simpa using c6))
  (try (have c6b2:(a0_2 == a1_2)=false:=by simpa using c6))
  (try (have c6b3:¬ (a0_2=a1_2):=by simpa using c6))
  clear c6
  exact fR
 rw[if_neg c6] at H
 have c6b0:(a0_2 != a1_2)=false:=by simpa using c6
 (try (have c6b1:decide (a0_2=a1_2)=true:=by simpa using c6))
 (try (have c6b2:(a0_2 == a1_2)=true:=by simpa using c6))
 clear c6
 replace H:=bE H;obtain⟨t104,A15,H⟩:=H
 cases t104
 case false =>
  rw[if_neg nft] at H
  obtain rfl:=sI H
  go_wp2_with (refine gB 188 25 Tryz.func188 (Xw.calls _ _ _ _ _ _ _ _ _ (rW HR0_3 HB HC0_3) (rW HR1_3 HB HC1_3) A15.out) ?_;intro wz4 hb;replace BKz1:=aB BKz1 hb;replace BKz2:=aB BKz2 hb;replace HB:=aS HB hb;clear hb)
  go_ret
  exact⟨rE,(hX HB.out)⟩
 rw[if_pos rfl] at H
 replace H:=bE H;obtain⟨t105,A17,H⟩:=H
 go_wp2_with (refine gB 188 25 Tryz.func188 (Xw.calls _ _ _ _ _ _ _ _ _ (rW HR0_3 HB HC0_3) (rW HR1_3 HB HC1_3) A15.out) ?_;intro wz4 hb;replace BKz1:=aB BKz1 hb;replace BKz2:=aB BKz2 hb;replace HB:=aS HB hb;clear hb;have hczz21:=cZ5 BKz1.out;have hczz26:=cZ5 BKz2.out;refine Stop.out ?_)
 refine⟨?_⟩
 cases t105
 case true =>
  rw[if_pos rfl] at H
  obtain rfl:=sI H
  go_wp2_with (refine gB 189 31 Tryz.func189 (Xx.calls _ _ _ _ _ _ _ _ _ (rW HR0_4 HB HC0_4) (rW HR1_4 HB HC1_4) A17.out) ?_;intro wz5 hb;replace BKz1:=aB BKz1 hb;replace BKz2:=aB BKz2 hb;replace HB:=aS HB hb;clear hb)
  go_ret
  exact⟨rE,(hX HB.out)⟩
 rw[if_neg nft] at H
 obtain rfl:=sI H
 go_wp2_with (refine gB 189 31 Tryz.func189 (Xx.calls _ _ _ _ _ _ _ _ _ (rW HR0_4 HB HC0_4) (rW HR1_4 HB HC1_4) A17.out) ?_;intro wz5 hb;replace BKz1:=aB BKz1 hb;replace BKz2:=aB BKz2 hb;replace HB:=aS HB hb;clear hb)
 go_ret
 exact⟨rE,(hX HB.out)⟩
def XaZ.f (k:Nat) (a0_0:Int) (a0_1:Int) (a0_2:Int) (a0_3:Int) (a0_4:Int) (a0_5:Int) (a0_6:Int) (a0_7:Int) (l0_8:List Int) (a1_0:Int) (a1_1:Int) (a1_2:Int) (a1_3:Int) (a1_4:Int) (a1_5:Int) (a1_6:Int) (a1_7:Int) (l1_8:List Int):Option (Bool):=if a0_0=a1_0 then ((XaR.f a0_1 a0_2 a0_3 a1_1 a1_2 a1_3).bind fun t103=>(if t103=true then (if a0_4=a1_4 then (if a0_5=a1_5 then (if a0_6=a1_6 then ((XaN.f k a0_7 l0_8 a1_7 l1_8).bind fun t104=>(if t104=true then (some true) else (some false))) else (some false)) else (some false)) else (some false)) else (some false))) else (some false)
theorem XaZ.calls (k:Nat) (a0_0:Int) (a0_1:Int) (a0_2:Int) (a0_3:Int) (a0_4:Int) (a0_5:Int) (a0_6:Int) (a0_7:Int) (A0_8:Option Addr) (c0_8:Nat) (l0_8:List Int) (a1_0:Int) (a1_1:Int) (a1_2:Int) (a1_3:Int) (a1_4:Int) (a1_5:Int) (a1_6:Int) (a1_7:Int) (A1_8:Option Addr) (c1_8:Nat) (l1_8:List Int) (r:Bool) (w:World) (h0_8:Rw (Kd.int .i64) w A0_8 c0_8 l0_8) (h1_8:Rw (Kd.int .i64) w A1_8 c1_8 l1_8) (H:XaZ.f k a0_0 a0_1 a0_2 a0_3 a0_4 a0_5 a0_6 a0_7 l0_8 a1_0 a1_1 a1_2 a1_3 a1_4 a1_5 a1_6 a1_7 l1_8=some r) :
  Calls Tryz.prog 112 #[.agg #[.int .i64 a0_0,.int .i64 a0_1,.int .i64 a0_2,.int .i64 a0_3,.int .i64 a0_4,.int .i64 a0_5,.int .i64 a0_6,.int .i64 a0_7,.slice A0_8 l0_8.length c0_8],.agg #[.int .i64 a1_0,.int .i64 a1_1,.int .i64 a1_2,.int .i64 a1_3,.int .i64 a1_4,.int .i64 a1_5,.int .i64 a1_6,.int .i64 a1_7,.slice A1_8 l1_8.length c1_8]] w fun e w'=>e = .returned (.bool r)∧Below w.heap.size w w':=by
 have hu73:=Tryz.underlying73
 have hu69:=Tryz.underlying69
 have hu71:=Tryz.underlying71
 obtain⟨HR0_8,HC0_8⟩:=h0_8
 obtain⟨HR1_8,HC1_8⟩:=h1_8
 have HB:=aM (Below.refl w.heap.size w)
 unfold XaZ.f at H
 go_enter Tryz.func112,Tryz.ntmps112
 go_wp2_with (first | (refine boxE 2 #[.int .i64 a0_0,.int .i64 a0_1,.int .i64 a0_2,.int .i64 a0_3,.int .i64 a0_4,.int .i64 a0_5,.int .i64 a0_6,.int .i64 a0_7,.slice A0_8 l0_8.length c0_8] 73 ?_;intro gbz1 hg wz1 hbox hb;have BKz1:=aM (hbox);have GWz1:=aG hg HB;replace HB:=aS HB hb;clear hb hbox hg) | (refine boxE 3 #[.int .i64 a1_0,.int .i64 a1_1,.int .i64 a1_2,.int .i64 a1_3,.int .i64 a1_4,.int .i64 a1_5,.int .i64 a1_6,.int .i64 a1_7,.slice A1_8 l1_8.length c1_8] 73 ?_;intro gbz2 hg wz2 hbox hb;have BKz2:=aM (hbox);have GWz2:=aG hg HB;have NBz1:=aL hg BKz1;have NBz2:=aR hg BKz1;replace BKz1:=aB BKz1 hb;replace HB:=aS HB hb;clear hb hbox hg;have hnbz1:=nB NBz1 NBz2;have hczz1:=cZ9 BKz1.out;have hczz10:=cZ9 BKz2.out;refine Stop.out ?_))
 refine⟨?_⟩
 revert H;refine eN ?_ ?_<;>intro c3b0 c3b1 H
 ·obtain rfl:=sI H
  exact fS
 replace H:=bE H;obtain⟨t103,A4,H⟩:=H
 cases t103
 case false =>
  rw[if_neg nft] at H
  obtain rfl:=sI H
  go_wp2_with (refine gB 128 14 Tryz.func128 (XaR.calls _ _ _ _ _ _ _ _ A4.out) ?_;intro wz3 hb;replace BKz1:=aB BKz1 hb;replace BKz2:=aB BKz2 hb;replace HB:=aS HB hb;clear hb)
  go_ret
  exact⟨rE,(hX HB.out)⟩
 rw[if_pos rfl] at H
 go_wp2_with (refine gB 128 14 Tryz.func128 (XaR.calls _ _ _ _ _ _ _ _ A4.out) ?_;intro wz3 hb;replace BKz1:=aB BKz1 hb;replace BKz2:=aB BKz2 hb;replace HB:=aS HB hb;clear hb;have hczz19:=cZ9 BKz1.out;have hczz28:=cZ9 BKz2.out;refine Stop.out ?_)
 refine⟨?_⟩
 revert H;refine eN ?_ ?_<;>intro c6b0 c6b1 H
 ·obtain rfl:=sI H
  exact fS
 revert H;refine eN ?_ ?_<;>intro c7b0 c7b1 H
 ·obtain rfl:=sI H
  exact fS
 revert H;refine eN ?_ ?_<;>intro c8b0 c8b1 H
 ·obtain rfl:=sI H
  exact fS
 replace H:=bE H;obtain⟨t104,A9,H⟩:=H
 cases t104
 case true =>
  rw[if_pos rfl] at H
  obtain rfl:=sI H
  go_wp2_with (refine gB 190 35 Tryz.func190 (XaN.calls _ _ _ _ _ _ _ _ _ _ _ (rW HR0_8 HB HC0_8) (rW HR1_8 HB HC1_8) A9.out) ?_;intro wz4 hb;replace BKz1:=aB BKz1 hb;replace BKz2:=aB BKz2 hb;replace HB:=aS HB hb;clear hb)
  go_ret
  exact⟨rE,(hX HB.out)⟩
 rw[if_neg nft] at H
 obtain rfl:=sI H
 go_wp2_with (refine gB 190 35 Tryz.func190 (XaN.calls _ _ _ _ _ _ _ _ _ _ _ (rW HR0_8 HB HC0_8) (rW HR1_8 HB HC1_8) A9.out) ?_;intro wz4 hb;replace BKz1:=aB BKz1 hb;replace BKz2:=aB BKz2 hb;replace HB:=aS HB hb;clear hb)
 go_ret
 exact⟨rE,(hX HB.out)⟩
end Go.Proofs.YtmljebgideecjaaGreat.P2
