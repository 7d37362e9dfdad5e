/- A part of the proof of the law FnExactReplay: texts of this seat, merged (words, printed functions of the program, plain lemmas). Conditions: none of its own. -/
import Derived.Test.YtmljebgideecjaaGreatP2kFnExactReplay39
import Derived.Test.YtmljebgideecjaaGreatP2kFnExactReplay40
set_option linter.unusedSimpArgs false
set_option linter.unusedVariables false
set_option maxHeartbeats 8000000
set_option maxRecDepth 100000
namespace Go.Proofs.YtmljebgideecjaaGreat.P2
open Go.Proofs.YtmljebgideecjaaGreatZ Go.RowKit Go.Proofs.YtmljebgideecjaaGreatW.PrintWords Go.Proofs.YtmljebgideecjaaGreatW.PrintLast Go.Proofs.YtmljebgideecjaaGreatW.PrintMore
attribute [local go_sem] max2_int min2_int max_two min_two max_three min_three max_four min_four   -- for this text's walks alone
def X3.l0:Nat→Bool→List Int→Int→Int→List (S140)→List (S162)→List (S97)→Int→List (S73)→List Int→List Int→Int→List Int→Int→Option (List Int × Int × Bool)
 | 0,_,_,_,_,_,_,_,_,_,_,_,_,_,_=>none
 | k+1,x5,x17,x18,x19,x102000,x102001,x102002,x102003,x102004,x102005,x102006,x102007,x109000,x109001=>if x19<x18 then (if 0≤x19 then (if x19<(x17.length:Int) then (if 0≤(rd x17 x19) then (if (rd x17 x19)<(x102004.length:Int) then (if x5=true then ((XW.f k x109000 x109001 ((rd_T73 x102004 (rd x17 x19)).f1.f0) ((rd_T73 x102004 (rd x17 x19)).f1.f1) ((rd_T73 x102004 (rd x17 x19)).f1.f2) ((rd_T73 x102004 (rd x17 x19)).f5.f0) ((rd_T73 x102004 (rd x17 x19)).f5.f1)).bind fun t112=>((XC.f k x109000 x109001 ((rd_T73 x102004 (rd x17 x19)).f1.f0) ((rd_T73 x102004 (rd x17 x19)).f1.f1) ((rd_T73 x102004 (rd x17 x19)).f1.f2) ((rd_T73 x102004 (rd x17 x19)).f5.f0) ((rd_T73 x102004 (rd x17 x19)).f5.f1)).bind fun bt113=>(X3.l0 k t112 x17 x18 (wrap64 (x19+1)) x102000 x102001 x102002 x102003 x102004 x102005 x102006 x102007 bt113.1 bt113.2))) else ((XC.f k x109000 x109001 ((rd_T73 x102004 (rd x17 x19)).f1.f0) ((rd_T73 x102004 (rd x17 x19)).f1.f1) ((rd_T73 x102004 (rd x17 x19)).f1.f2) ((rd_T73 x102004 (rd x17 x19)).f5.f0) ((rd_T73 x102004 (rd x17 x19)).f5.f1)).bind fun bt117=>(X3.l0 k false x17 x18 (wrap64 (x19+1)) x102000 x102001 x102002 x102003 x102004 x102005 x102006 x102007 bt117.1 bt117.2))) else (none)) else (none)) else (none)) else (none)) else (some (x109000,x109001,x5))
def X3.f (k:Nat) (l0_0:List (S140)) (l0_1:List (S162)) (l0_2:List (S97)) (a0_3:Int) (l0_4:List (S73)) (l0_5:List Int) (l0_6:List Int) (a0_7:Int):Option (List Int × Int × Bool):=(Xg.f k l0_0 l0_1 l0_2 a0_3 l0_4 l0_5 l0_6 a0_7).bind fun t103=>(if t103=true then ((XaF.f l0_6 a0_7).bind fun bt104=>(X3.l0 k true l0_5 (l0_5.length:Int) 0 l0_0 l0_1 l0_2 a0_3 l0_4 l0_5 l0_6 a0_7 bt104.1 bt104.2)) else (some (([]:List Int),0,false)))
theorem X3.calls (k:Nat) (A0_0:Option Addr) (c0_0:Nat) (l0_0:List (S140)) (A0_1:Option Addr) (c0_1:Nat) (l0_1:List (S162)) (A0_2:Option Addr) (c0_2:Nat) (l0_2:List (S97)) (a0_3:Int) (A0_4:Option Addr) (c0_4:Nat) (l0_4:List (S73)) (A0_5:Option Addr) (c0_5:Nat) (l0_5:List Int) (A0_6:Option Addr) (c0_6:Nat) (l0_6:List Int) (a0_7:Int) (r1:List Int) (r2:Int) (r3:Bool) (w:World) (h0_0:Rw k140 w A0_0 c0_0 l0_0) (h0_1:Rw k162 w A0_1 c0_1 l0_1) (h0_2:Rw k97 w A0_2 c0_2 l0_2) (h0_4:Rw k73 w A0_4 c0_4 l0_4) (h0_5:Rw (Kd.int .i64) w A0_5 c0_5 l0_5) (h0_6:Rw (Kd.int .i64) w A0_6 c0_6 l0_6) (h:X3.f k l0_0 l0_1 l0_2 a0_3 l0_4 l0_5 l0_6 a0_7=some (r1,r2,r3)) :
  Calls Tryz.prog 30 #[.agg #[.slice A0_0 l0_0.length c0_0,.slice A0_1 l0_1.length c0_1,.slice A0_2 l0_2.length c0_2,.int .i64 a0_3,.slice A0_4 l0_4.length c0_4,.slice A0_5 l0_5.length c0_5,.slice A0_6 l0_6.length c0_6,.int .i64 a0_7]] w fun e w'=>∃ v0_:Value,e = .returned (.tuple #[.agg #[v0_,.int .i64 r2],.bool r3])∧Kd.R (Kd.int .i64) 3 w' w.heap.size (fun _=>True) v0_ r1∧Below w.heap.size w w':=by
 have hu43:=Tryz.underlying43
 have hu41:=Tryz.underlying41
 have hu73:=Tryz.underlying73
 have hu69:=Tryz.underlying69
 have hu71:=Tryz.underlying71
 obtain⟨HR0_0,HC0_0⟩:=h0_0
 obtain⟨HR0_1,HC0_1⟩:=h0_1
 obtain⟨HR0_2,HC0_2⟩:=h0_2
 obtain⟨HR0_4,HC0_4⟩:=h0_4
 obtain⟨HR0_5,HC0_5⟩:=h0_5
 obtain⟨HR0_6,HC0_6⟩:=h0_6
 have HB:=aM (Below.refl w.heap.size w)
 have H:=h
 unfold X3.f at H
 clear h
 replace H:=bE H;obtain⟨t103,A2,H⟩:=H
 go_enter Tryz.func30,Tryz.ntmps30
 go_wp2_with (first | (refine boxE 1 #[.slice A0_0 l0_0.length c0_0,.slice A0_1 l0_1.length c0_1,.slice A0_2 l0_2.length c0_2,.int .i64 a0_3,.slice A0_4 l0_4.length c0_4,.slice A0_5 l0_5.length c0_5,.slice A0_6 l0_6.length c0_6,.int .i64 a0_7] 43 ?_;intro gbz1 hg wz1 hbox hb;have BKz1:=aM (hbox);have GWz1:=aG hg HB;replace HB:=aS HB hb;clear hb hbox hg) | (refine boxE 2 #[.slice none 0 0,.int .i64 0] 41 ?_;intro gbz2 hg wz2 hbox hb;have BKz2:=aM (hbox);have GWz2:=aG hg HB;have NBz1:=aL hg BKz1;have NBz2:=aR hg BKz1;replace BKz1:=aB BKz1 hb;replace HB:=aS HB hb;clear hb hbox hg;have hnbz1:=nB NBz1 NBz2;have hczz1:=cZ8 BKz1.out;refine Stop.out ?_))
 refine⟨?_⟩
 cases t103
 case false =>
  rw[if_neg nft] at H
  simp only[Option.some.injEq,Prod.mk.injEq] at H
  obtain⟨rfl,rfl,rfl⟩:=H
  go_wp2_with (refine gB 48 10 Tryz.func48 (Xg.calls _ _ _ _ _ _ _ _ _ _ _ _ _ _ _ _ _ _ _ _ _ _ _ (rW HR0_0 HB HC0_0) (rW HR0_1 HB HC0_1) (rW HR0_2 HB HC0_2) (rW HR0_4 HB HC0_4) (rW HR0_5 HB HC0_5) (rW HR0_6 HB HC0_6) A2.out) ?_;intro wz3 hb;replace BKz1:=aB BKz1 hb;replace BKz2:=aB BKz2 hb;replace HB:=aS HB hb;clear hb;have hczz9:=cZ2 BKz2.out)
  refine bodyPost_ret (results_ct rfl _ _ gbz2 41 #[.slice none 0 0,.int .i64 0] (0,0) _ rfl (bP BKz2.out) Tryz.underlying41 rfl (by kernel_rfl)) rfl ?_
  exact⟨(Value.slice none 0 0),rE,(by first | exact Kd.R_nil _ _ _ _ _ | exact Kd.S_nil _ _ _ _ _ | exact Kd.V_nil _ _ _ _ _ | exact Kd.N_nil _ _ _ _ _ | exact Kd.Q_nil _ _ _ _ _),(hX HB.out)⟩
 rw[if_pos rfl] at H
 replace H:=bE H;obtain⟨⟨t104,t107⟩,A4,H⟩:=H
 try dsimp only at H
 have H':=aM H
 clear H
 go_wp2_with (first | (refine gB 48 10 Tryz.func48 (Xg.calls _ _ _ _ _ _ _ _ _ _ _ _ _ _ _ _ _ _ _ _ _ _ _ (rW HR0_0 HB HC0_0) (rW HR0_1 HB HC0_1) (rW HR0_2 HB HC0_2) (rW HR0_4 HB HC0_4) (rW HR0_5 HB HC0_5) (rW HR0_6 HB HC0_6) A2.out) ?_;intro wz3 hb;replace BKz1:=aB BKz1 hb;replace BKz2:=aB BKz2 hb;replace HB:=aS HB hb;clear hb;have hczz9:=cZ8 BKz1.out) | (refine goesM 68 15 Tryz.func68 #[.agg #[.slice A0_6 l0_6.length c0_6,.int .i64 a0_7]] ?_;refine(XaF.calls _ _ _ _ _ _ _ (rW HR0_6 HB HC0_6) A4.out).mono ?_;rintro e wz4 ⟨vz1,rfl,hoz1,hb⟩;refine⟨_,rfl,?_⟩;have HOz1:=aM (Kd.R_lower hoz1 (below_size (hX HB.out)));replace BKz1:=aB BKz1 hb;replace BKz2:=aB BKz2 hb;replace HB:=aS HB hb;clear hb hoz1) | (refine boxE 4 #[.slice none 0 0,.int .i64 0] 41 ?_;intro gbz3 hg wz5 hbox hb;have BKz3:=aM (hbox);have GWz3:=aG hg HB;have NBz3:=aL hg BKz1;have NBz4:=aR hg BKz1;have NBz5:=aL hg BKz2;have NBz6:=aR hg BKz2;replace HOz1:=aQ HOz1 hb;replace BKz1:=aB BKz1 hb;replace BKz2:=aB BKz2 hb;replace HB:=aS HB hb;clear hb hbox hg;obtain⟨Aoz1,coz1,eoz1⟩:=Kd.R_slice HOz1.out;subst eoz1;have hnbz2:=nB NBz4 NBz3;have hnbz3:=nB NBz6 NBz5;have hczz17:=cZ2 BKz3.out;have hczz19:=cZ8 BKz1.out))
 go_loopg [5,19] k (fun kq v5 v19 w'=>∃ (x5_1:Bool) (x19_1:Int) (x109000_1:List Int) (x109001_1:Int) (u109000:Value),v5 = .bool x5_1∧v19 = .int .i64 x19_1∧Aside0 (X3.l0 kq x5_1 l0_5 (l0_5.length:Int) x19_1 l0_0 l0_1 l0_2 a0_3 l0_4 l0_5 l0_6 a0_7 x109000_1 x109001_1=some (r1,r2,r3))∧Aside0 (kq≤k)∧Aside0 (Kd.R (Kd.int .i64) 3 w' w.heap.size (fun _=>True) u109000 x109000_1)∧Aside0 (w'.heap[gbz1]? = some (.cells #[(.slice A0_0 l0_0.length c0_0),(.slice A0_1 l0_1.length c0_1),(.slice A0_2 l0_2.length c0_2),.int .i64 a0_3,(.slice A0_4 l0_4.length c0_4),(.slice A0_5 l0_5.length c0_5),(.slice A0_6 l0_6.length c0_6),.int .i64 a0_7] 43 (0,0)))∧Aside0 (w'.heap[gbz2]? = some (.cells #[(.slice none 0 0),.int .i64 0] 41 (0,0)))∧Aside0 (w'.heap[gbz3]? = some (.cells #[u109000,.int .i64 x109001_1] 41 (0,0)))∧Aside0 (Below w.heap.size w w'))
 case atStart=>exact⟨(true),(0),(t104),(t107),(.slice Aoz1 t104.length coz1),rS,rS,H',⟨Nat.le_refl _⟩,⟨(Kd.R_mono (rF HOz1.out BKz3.out) (fun _ hk=>trivial))⟩,⟨(bF BKz1.out)⟩,⟨(bF BKz2.out)⟩,⟨(bP BKz3.out)⟩,⟨(hX HB.out)⟩⟩
 case round =>
  clear H'
  try clear hczz9
  try clear hczz17
  try clear hczz19
  try clear hczz1
  obtain⟨x5_1,x19_1,x109000_1,x109001_1,u109000,rfl,rfl,HA,HKy1,HO_y1,BKz1,BKz2,BKz3,HB⟩:=hrel
  cases gk with
  | zero=>exact absurd HA.out (by simp[X3.l0])
  | succ k1 =>
   have H:=HA.out
   clear HA
   simp only[X3.l0] at H
   revert H;refine iN ?_ ?_<;>intro c18b0 H
   ·simp only[Option.some.injEq,Prod.mk.injEq] at H
    obtain⟨rfl,rfl,rfl⟩:=H
    have hnbx1:=NBz4.out
    have hncx1:=NBz3.out
    have hnbx2:=NBz6.out
    have hncx2:=NBz5.out
    have hczx1:=cZ2 BKz3.out
    obtain⟨Aox1,cox1,eox1⟩:=Kd.R_slice HO_y1.out
    subst eox1
    have hnbx3:=NBz2.out
    have hncx3:=NBz1.out
    have hczx3:=cZ2 BKz2.out
    go_wp2
    refine bodyPost_ret (results_ct rfl _ _ gbz2 41 #[.slice Aox1 x109000_1.length cox1,.int .i64 x109001_1] (0,0) _ rfl (bP BKz2.out) Tryz.underlying41 rfl (by kernel_rfl)) rfl ?_
    exact⟨_,rE,(Kd.R_mono (rF HO_y1.out BKz2.out) (fun _ hk=>trivial)),(hX HB.out)⟩
   replace H:=ifQ H;obtain⟨c19b0,H⟩:=H
   replace H:=ifQ H;obtain⟨c20b0,H⟩:=H
   replace H:=ifQ H;obtain⟨c21b0,H⟩:=H
   replace H:=ifQ H;obtain⟨c22b0,H⟩:=H
   obtain⟨adx1,ex1,px1,qx1,hxx1⟩:=at_ic HR0_5 HB x19_1
   cases ex1
   have hnbx1:=NBz1.out
   have hncx1:=NBz2.out
   have hnbx2:=NBz3.out
   have hncx2:=NBz4.out
   have hczx1:=cZ8 BKz1.out
   obtain⟨adx2,Ax1,cx1,ex2,px2,qx2,hxx2,HCx1,HRx1⟩:=at_T73c HR0_4 HB (rd l0_5 x19_1)
   cases ex2
   go_wp2_with (refine boxE 8 #[.int .i64 0,.int .i64 0,.int .i64 0,.int .i64 0,.int .i64 0,.int .i64 0,.int .i64 0,.int .i64 0,.slice none 0 0] 73 ?_;intro gbx1 hg wx1 hbox hb;have BKx1:=aM (hbox);have GWx1:=aG hg HB;have NBx1:=aL hg BKz1;have NBx2:=aR hg BKz1;have NBx3:=aL hg BKz2;have NBx4:=aR hg BKz2;have NBx5:=aL hg BKz3;have NBx6:=aR hg BKz3;replace HO_y1:=aQ HO_y1 hb;replace BKz1:=aB BKz1 hb;replace BKz2:=aB BKz2 hb;replace BKz3:=aB BKz3 hb;replace HB:=aS HB hb;clear hb hbox hg;have hnbx3:=NBx2.out;have hncx3:=NBx1.out;have hnbx4:=nB NBx4 NBx3;have hnbx5:=nB NBx6 NBx5;have hczx9:=cZ9 BKx1.out;have hnbx6:=nB NBz6 NBz5;have hczx18:=cZ2 BKz3.out;obtain⟨Aox1,cox1,eox1⟩:=Kd.R_slice HO_y1.out;subst eox1;refine Stop.out ?_)
   refine⟨?_⟩
   cases x5_1
   case false =>
    rw[if_neg nft] at H
    replace H:=bE H;obtain⟨⟨t117,t120⟩,A43,H⟩:=H
    try dsimp only at H
    have H':=aM H
    clear H
    go_wp2_with (refine goesM 83 42 Tryz.func83 #[.agg #[.slice Aox1 x109000_1.length cox1,.int .i64 x109001_1],.agg #[.int .i64 ((rd_T73 l0_4 (rd l0_5 x19_1)).f1.f0),.int .i64 ((rd_T73 l0_4 (rd l0_5 x19_1)).f1.f1),.int .i64 ((rd_T73 l0_4 (rd l0_5 x19_1)).f1.f2)],.agg #[.int .i64 ((rd_T73 l0_4 (rd l0_5 x19_1)).f5.f0),.slice Ax1 ((rd_T73 l0_4 (rd l0_5 x19_1)).f5.f1).length cx1]] ?_;refine(XC.calls k1 _ _ x109000_1 x109001_1 ((rd_T73 l0_4 (rd l0_5 x19_1)).f1.f0) ((rd_T73 l0_4 (rd l0_5 x19_1)).f1.f1) ((rd_T73 l0_4 (rd l0_5 x19_1)).f1.f2) ((rd_T73 l0_4 (rd l0_5 x19_1)).f5.f0) _ _ ((rd_T73 l0_4 (rd l0_5 x19_1)).f5.f1) t117 t120 _ (rw2 (rR HO_y1.out BKx1.out) ((Kd.R_reads' HO_y1.out).2.1)) (rw2 (by exact Kd.C_below HRx1.out (hX HB.out)) HCx1.out) A43.out).mono ?_;rintro e wx2 ⟨vx1,rfl,hoz1,hb⟩;refine⟨_,rfl,?_⟩;have HOx1:=aM (Kd.R_lower (Kd.R_new' hoz1 (Kd.R_lt (rF HO_y1.out BKx1.out))) (below_size (hX HB.out)));replace HO_y1:=aM (Kd.R_elder' (rF HO_y1.out BKx1.out) (Kd.R_base hoz1) hb);replace BKz1:=aF BKz1 hb;replace BKz2:=aF BKz2 hb;replace BKz3:=aF BKz3 hb;replace BKx1:=aM (blk_below (g:=gbx1) (o:=.cells #[.int .i64 ((rd_T73 l0_4 (rd l0_5 x19_1)).f0),.int .i64 ((rd_T73 l0_4 (rd l0_5 x19_1)).f1.f0),.int .i64 ((rd_T73 l0_4 (rd l0_5 x19_1)).f1.f1),.int .i64 ((rd_T73 l0_4 (rd l0_5 x19_1)).f1.f2),.int .i64 ((rd_T73 l0_4 (rd l0_5 x19_1)).f2),.int .i64 ((rd_T73 l0_4 (rd l0_5 x19_1)).f3),.int .i64 ((rd_T73 l0_4 (rd l0_5 x19_1)).f4),.int .i64 ((rd_T73 l0_4 (rd l0_5 x19_1)).f5.f0),.slice Ax1 ((rd_T73 l0_4 (rd l0_5 x19_1)).f5.f1).length cx1] 73 (0,0)) (bP BKx1.out) hb);replace HB:=aS HB hb;clear hb hoz1;obtain⟨Aox2,cox2,eox2⟩:=Kd.R_slice HOx1.out;subst eox2;have hczx20:=cZ2 BKz3.out)
    go_roundg k1
    case measure=>have:=HKy1.out;omega
    case rel=>exact⟨(false),(wrap64 (x19_1+1)),(t117),(t120),(.slice Aox2 t117.length cox2),rS,rS,H',⟨by have:=HKy1.out;omega⟩,⟨(Kd.R_mono (rF HOx1.out BKz3.out) (fun _ hk=>trivial))⟩,⟨(bF BKz1.out)⟩,⟨(bF BKz2.out)⟩,⟨(bP BKz3.out)⟩,⟨(hX HB.out)⟩⟩
   rw[if_pos rfl] at H
   replace H:=bE H;obtain⟨t112,A24,H⟩:=H
   replace H:=bE H;obtain⟨⟨t113,t116⟩,A25,H⟩:=H
   try dsimp only at H
   have H':=aM H
   clear H
   go_wp2_with (first | (go_at_call 82;(with_reducible refine(XW.calls k1 _ _ x109000_1 x109001_1 ((rd_T73 l0_4 (rd l0_5 x19_1)).f1.f0) ((rd_T73 l0_4 (rd l0_5 x19_1)).f1.f1) ((rd_T73 l0_4 (rd l0_5 x19_1)).f1.f2) ((rd_T73 l0_4 (rd l0_5 x19_1)).f5.f0) _ _ ((rd_T73 l0_4 (rd l0_5 x19_1)).f5.f1) t112 _ (rw2 (rR HO_y1.out BKx1.out) ((Kd.R_reads' HO_y1.out).2.1)) (rw2 (by exact Kd.C_below HRx1.out (hX HB.out)) HCx1.out) A24.out).mono ?_);rintro e wx2 ⟨rfl,hb⟩;replace HO_y1:=aM (Kd.R_below (rF HO_y1.out BKx1.out) hb);replace BKz1:=aF BKz1 hb;replace BKz2:=aF BKz2 hb;replace BKz3:=aF BKz3 hb;replace BKx1:=aM (blk_below (g:=gbx1) (o:=.cells #[.int .i64 ((rd_T73 l0_4 (rd l0_5 x19_1)).f0),.int .i64 ((rd_T73 l0_4 (rd l0_5 x19_1)).f1.f0),.int .i64 ((rd_T73 l0_4 (rd l0_5 x19_1)).f1.f1),.int .i64 ((rd_T73 l0_4 (rd l0_5 x19_1)).f1.f2),.int .i64 ((rd_T73 l0_4 (rd l0_5 x19_1)).f2),.int .i64 ((rd_T73 l0_4 (rd l0_5 x19_1)).f3),.int .i64 ((rd_T73 l0_4 (rd l0_5 x19_1)).f4),.int .i64 ((rd_T73 l0_4 (rd l0_5 x19_1)).f5.f0),.slice Ax1 ((rd_T73 l0_4 (rd l0_5 x19_1)).f5.f1).length cx1] 73 (0,0)) (bP BKx1.out) hb);replace HB:=aS HB hb;clear hb;have hczx20:=cZ2 BKz3.out;have hczx22:=cZ9 BKx1.out) | (refine goesM 83 42 Tryz.func83 #[.agg #[.slice Aox1 x109000_1.length cox1,.int .i64 x109001_1],.agg #[.int .i64 ((rd_T73 l0_4 (rd l0_5 x19_1)).f1.f0),.int .i64 ((rd_T73 l0_4 (rd l0_5 x19_1)).f1.f1),.int .i64 ((rd_T73 l0_4 (rd l0_5 x19_1)).f1.f2)],.agg #[.int .i64 ((rd_T73 l0_4 (rd l0_5 x19_1)).f5.f0),.slice Ax1 ((rd_T73 l0_4 (rd l0_5 x19_1)).f5.f1).length cx1]] ?_;refine(XC.calls _ _ _ _ _ _ _ _ _ _ _ _ _ _ _ (rw2 (cX (Kd.R_reads' HO_y1.out).2.2) ((Kd.R_reads' HO_y1.out).2.1)) (rw2 (by exact Kd.C_below HRx1.out (hX HB.out)) HCx1.out) A25.out).mono ?_;rintro e wx3 ⟨vx1,rfl,hoz1,hb⟩;refine⟨_,rfl,?_⟩;have HOx1:=aM (Kd.R_lower (Kd.R_new' hoz1 (Kd.R_lt (rX HO_y1.out))) (below_size (hX HB.out)));replace HO_y1:=aM (Kd.R_elder' (rX HO_y1.out) (Kd.R_base hoz1) hb);replace BKz1:=aB BKz1 hb;replace BKz2:=aB BKz2 hb;replace BKz3:=aB BKz3 hb;replace BKx1:=aM (blk_below (g:=gbx1) (o:=.cells #[.int .i64 ((rd_T73 l0_4 (rd l0_5 x19_1)).f0),.int .i64 ((rd_T73 l0_4 (rd l0_5 x19_1)).f1.f0),.int .i64 ((rd_T73 l0_4 (rd l0_5 x19_1)).f1.f1),.int .i64 ((rd_T73 l0_4 (rd l0_5 x19_1)).f1.f2),.int .i64 ((rd_T73 l0_4 (rd l0_5 x19_1)).f2),.int .i64 ((rd_T73 l0_4 (rd l0_5 x19_1)).f3),.int .i64 ((rd_T73 l0_4 (rd l0_5 x19_1)).f4),.int .i64 ((rd_T73 l0_4 (rd l0_5 x19_1)).f5.f0),.slice Ax1 ((rd_T73 l0_4 (rd l0_5 x19_1)).f5.f1).length cx1] 73 (0,0)) (bX BKx1.out) hb);replace HB:=aS HB hb;clear hb hoz1;obtain⟨Aox2,cox2,eox2⟩:=Kd.R_slice HOx1.out;subst eox2;have hczx31:=cZ2 BKz3.out))
   go_roundg k1
   case measure=>have:=HKy1.out;omega
   case rel=>exact⟨(t112),(wrap64 (x19_1+1)),(t113),(t116),(.slice Aox2 t113.length cox2),rS,rS,H',⟨by have:=HKy1.out;omega⟩,⟨(Kd.R_mono (rF HOx1.out BKz3.out) (fun _ hk=>trivial))⟩,⟨(bF BKz1.out)⟩,⟨(bF BKz2.out)⟩,⟨(bP BKz3.out)⟩,⟨(hX HB.out)⟩⟩

end Go.Proofs.YtmljebgideecjaaGreat.P2
namespace Go.Proofs.YtmljebgideecjaaGreat.P2
open Go.RowKit Go.Proofs.YtmljebgideecjaaGreatW.PrintWords Go.Proofs.YtmljebgideecjaaGreatW.PrintLast Go.Proofs.YtmljebgideecjaaGreatZ
abbrev mO:=S69
abbrev mP:=S172
abbrev mH:=S174
abbrev mT:=S97
def opP (x:mO):Prop:=opOk x.f0 x.f1 x.f2=true
def pairP (x:mP):Prop:=(0≤x.f0∧x.f0≤19)∧(0≤x.f1∧x.f1≤1000)
def helpP (n:Int) (x:mH):Prop:=(0≤x.f0∧x.f0<n)∧(1≤x.f1∧x.f1≤1000000)∧(0≤x.f2∧x.f2≤20)∧(0≤x.f3∧x.f3≤20)
def thrN (x:mT):Prop:=x.f0.length≤8∧(0≤x.f1∧x.f1≤x.f0.length)∧(x.f2=true→x.f1<x.f0.length)∧(x.f2=false→x.f3.length=0∧x.f4.length=0)∧x.f3.length≤12∧x.f4.length≤2
def thrP (n:Int) (x:mT):Prop:=thrN x∧(∀ y ∈ x.f0,opP y)∧(∀ y ∈ x.f3,pairP y)∧(∀ y ∈ x.f4,helpP n y)
def smT (x:mT):Prop:=x.f0.length≤1048576∧x.f3.length≤1048576∧x.f4.length≤1048576
theorem specThr_l2 (n:Int) (x:mT) (h:smT x):EvB (fun k=>Xc.l2 k n 0 x.f0 x.f1 x.f2 x.f3 x.f4) (∀ y ∈ x.f4,helpP n y):=by
 refine(EvB.each x.f4 (R:=fun _ y=>helpP n y) (Q:=True) (g:=fun i k=>Xc.l2 k n (i:Int) x.f0 x.f1 x.f2 x.f3 x.f4) (fun _ => ?_) (fun i y hx hi hp hn => ?_) (fun i y hx hi hp hr r g => ?_)).iff (by rw[each_mem,and_true])
 ·refine EvB.yes (Ev.shift ?_) trivial
  simp only[Xc.l2,Int.lt_irrefl,if_false]
  exact Ev.now _
 ·have c0:(0:Int)≤(i:Int):=by omega
  have c1:(i:Int)<(x.f4.length:Int):=by omega
  have er:rd_T174 x.f4 (i:Int)=y:=getD_get hx
  refine Ev.shift ?_
  simp only[Xc.l2,c0,c1,if_true,er,specIn_eq,Option.bind_some,decide_eq_true_eq]
  by_cases h1:y.f0<0
  ·exact Ev.pos h1 (Ev.now _)
  ·refine Ev.neg h1 ?_
   by_cases h2:y.f0 ≥ n
   ·exact Ev.pos h2 (Ev.now _)
   ·refine Ev.neg h2 ?_
    by_cases h3:1≤y.f1∧y.f1≤1000000
    ·refine Ev.pos h3 ?_
     by_cases h4:0≤y.f2∧y.f2≤20
     ·refine Ev.pos h4 (Ev.neg (fun h5=>hn ⟨by omega,h3,h4,h5⟩) (Ev.now _))
     ·exact Ev.neg h4 (Ev.now _)
    ·exact Ev.neg h3 (Ev.now _)
 ·have c0:(0:Int)≤(i:Int):=by omega
  have c1:(i:Int)<(x.f4.length:Int):=by omega
  have er:rd_T174 x.f4 (i:Int)=y:=getD_get hx
  have:=h.2.2
  obtain⟨h1,h3,h4,h5⟩:=hr
  refine Ev.shift ?_
  simp only[Xc.l2,c0,c1,if_true,er,specIn_eq,Option.bind_some,decide_eq_true_eq,succ64 hi (by omega)]
  exact Ev.neg (by omega) (Ev.neg (by omega) (Ev.pos h3 (Ev.pos h4 (Ev.pos h5 g))))
theorem specThr_l1 (n:Int) (x:mT) (h:smT x):EvB (fun k=>Xc.l1 k n 0 x.f0 x.f1 x.f2 x.f3 x.f4) ((∀ y ∈ x.f3,pairP y)∧∀ y ∈ x.f4,helpP n y):=by
 refine(EvB.each x.f3 (R:=fun _ y=>pairP y) (Q:=∀ y ∈ x.f4,helpP n y) (g:=fun i k=>Xc.l1 k n (i:Int) x.f0 x.f1 x.f2 x.f3 x.f4) (fun _ => ?_) (fun i y hx hi hp hn => ?_) (fun i y hx hi hp hr r g => ?_)).iff (by rw[each_mem])
 ·refine EvB.shift ?_
  simp only[Xc.l1,Int.lt_irrefl,if_false]
  exact specThr_l2 n x h
 ·have c0:(0:Int)≤(i:Int):=by omega
  have c1:(i:Int)<(x.f3.length:Int):=by omega
  have er:rd_T172 x.f3 (i:Int)=y:=getD_get hx
  refine Ev.shift ?_
  simp only[Xc.l1,c0,c1,if_true,er,specIn_eq,Option.bind_some,decide_eq_true_eq]
  by_cases h3:0≤y.f0∧y.f0≤19
  ·exact Ev.pos h3 (Ev.neg (fun h5=>hn ⟨h3,h5⟩) (Ev.now _))
  ·exact Ev.neg h3 (Ev.now _)
 ·have c0:(0:Int)≤(i:Int):=by omega
  have c1:(i:Int)<(x.f3.length:Int):=by omega
  have er:rd_T172 x.f3 (i:Int)=y:=getD_get hx
  have:=h.2.1
  refine Ev.shift ?_
  simp only[Xc.l1,c0,c1,if_true,er,specIn_eq,Option.bind_some,decide_eq_true_eq,succ64 hi (by omega)]
  exact Ev.pos hr.1 (Ev.pos hr.2 g)
theorem specThr_l0 (n:Int) (x:mT) (h:smT x):EvB (fun k=>Xc.l0 k n 0 x.f0 x.f1 x.f2 x.f3 x.f4) ((∀ y ∈ x.f0,opP y)∧(∀ y ∈ x.f3,pairP y)∧∀ y ∈ x.f4,helpP n y):=by
 refine(EvB.each x.f0 (R:=fun _ y=>opP y) (Q:=(∀ y ∈ x.f3,pairP y)∧∀ y ∈ x.f4,helpP n y) (g:=fun i k=>Xc.l0 k n (i:Int) x.f0 x.f1 x.f2 x.f3 x.f4) (fun _ => ?_) (fun i y hx hi hp hn => ?_) (fun i y hx hi hp hr r g => ?_)).iff (by rw[each_mem])
 ·refine EvB.shift ?_
  simp only[Xc.l0,Int.lt_irrefl,if_false]
  exact specThr_l1 n x h
 ·have c0:(0:Int)≤(i:Int):=by omega
  have c1:(i:Int)<(x.f0.length:Int):=by omega
  have er:rd_T69 x.f0 (i:Int)=y:=getD_get hx
  refine Ev.shift ?_
  simp only[Xc.l0,c0,c1,if_true,er]
  exact Ev.bind (Xbr _ _ _) (Ev.neg hn (Ev.now _))
 ·have c0:(0:Int)≤(i:Int):=by omega
  have c1:(i:Int)<(x.f0.length:Int):=by omega
  have er:rd_T69 x.f0 (i:Int)=y:=getD_get hx
  have:=h.1
  refine Ev.shift ?_
  simp only[Xc.l0,c0,c1,if_true,er,succ64 hi (by omega)]
  exact Ev.bind (Xbr _ _ _) (Ev.pos hr g)
theorem Xbv (n:Int) (x:mT) (h:smT x):EvB (fun k=>Xc.f k x.f0 x.f1 x.f2 x.f3 x.f4 n) (thrP n x):=by
 have hb:=h
 obtain⟨s1,s2,s3⟩:=h
 have bad:Ev (fun k=>Xc.j0 k n true x.f0 x.f1 x.f2 x.f3 x.f4) false:=Ev.shift (by simp only[Xc.j0,if_true];exact Ev.now _)
 have good:thrN x→EvB (fun k=>Xc.j0 k n false x.f0 x.f1 x.f2 x.f3 x.f4) (thrP n x):=fun hn=>by
  refine EvB.shift ?_
  simp only[Xc.j0,Bool.false_eq_true,if_false]
  exact(specThr_l0 n x hb).iff ⟨fun p=>⟨hn,p⟩,fun p=>p.2⟩
 have hww:wrap64 ((x.f3.length:Int)+(x.f4.length:Int))=(x.f3.length:Int)+(x.f4.length:Int):=w64 (by omega) (by omega)
 simp only[Xc.f,specIn_eq,Option.bind_some,decide_eq_true_eq,hww]
 refine EvB.ite (fun h1=>EvB.no bad (fun p=>absurd p.1.1 (by omega))) (fun h1=>EvB.ite (fun h2 => ?_) (fun h2=>EvB.no bad (fun p=>h2 p.1.2.1)))
 refine EvB.ite (fun h3=>EvB.ite (fun h4=>EvB.no bad (fun p=>absurd (p.1.2.2.1 h3) (by omega))) (fun h4=>EvB.ite (fun h5=>EvB.no bad (fun p=>absurd p.1.2.2.2.2.1 (by omega))) (fun h5 => ?_)))
  (fun h3=>EvB.ite (fun h4=>EvB.no bad (fun p=>absurd (p.1.2.2.2.1 (by simpa using h3)) (by omega))) (fun h4=>EvB.ite (fun h5=>EvB.no bad (fun p=>absurd p.1.2.2.2.2.1 (by omega))) (fun h5 => ?_)))
 ·by_cases h6:(x.f4.length:Int) > 2
  ·simp only[h6,decide_true]
   exact EvB.no bad (fun p=>absurd p.1.2.2.2.2.2 (by omega))
  ·simp only[h6,decide_false]
   exact good ⟨by omega,h2,fun _=>by omega,fun a=>(by rw[h3] at a;cases a),by omega,by omega⟩
 ·by_cases h6:(x.f4.length:Int) > 2
  ·simp only[h6,decide_true]
   exact EvB.no bad (fun p=>absurd p.1.2.2.2.2.2 (by omega))
  ·simp only[h6,decide_false]
   exact good ⟨by omega,h2,fun a=>absurd a h3,fun _=>by omega,by omega,by omega⟩
theorem implThr_ops (l:List mO) (hl:l.length≤1048576):EvB (fun k=>XaD.f k l) (∃ y ∈ l,¬ opP y):=by
 obtain⟨r,q1,q2,q3⟩:=first_ev l (fun x=>¬ opP x) (g:=fun i k=>XS.l0 k l (l.length:Int) (i:Int)) (by
  refine Ev.shift ?_
  simp only[XS.l0,Int.lt_irrefl,if_false]
  exact Ev.now _) (fun i x hx hi hn=>by
  have c0:(0:Int)≤(i:Int):=by omega
  have c1:(i:Int)<(l.length:Int):=by omega
  have er:rd_T69 l (i:Int)=x:=getD_get hx
  have e:opOk x.f0 x.f1 x.f2=false:=by unfold opP at hn;simpa using hn
  refine Ev.shift ?_
  simp only[XS.l0,c0,c1,if_true,er,XaC.f]
  exact Ev.bind (Ev.bind ((Xbo _ _ _).to e) (Ev.now _)) (Ev.pos rfl (Ev.now _))) (fun i x hx hi hn r h=>by
  have c0:(0:Int)≤(i:Int):=by omega
  have c1:(i:Int)<(l.length:Int):=by omega
  have er:rd_T69 l (i:Int)=x:=getD_get hx
  refine Ev.shift ?_
  simp only[XS.l0,c0,c1,if_true,er,XaC.f,succ64 hi (by omega)]
  exact Ev.bind (Ev.bind ((Xbo _ _ _).to (Classical.not_not.mp hn)) (Ev.now _)) (Ev.neg (by decide) h))
 refine⟨decide (r ≥ 0),?_,by rw[decide_eq_true_iff];exact q3⟩
 simp only[XaD.f,XS.f]
 exact Ev.bind q1 (Ev.now _)
theorem pair_eq (x:mP):EvB (fun _=>XaB.f x.f0 x.f1) (¬ pairP x):=by
 simp only[XaB.f,place_eq,wnum_eq,Option.bind_some,decide_eq_true_eq]
 refine EvB.ite (fun h1=>EvB.now ?_) (fun h1=>EvB.yes (Ev.now _) (fun p=>h1 p.1))
 by_cases h2:0≤x.f1∧x.f1≤1000
 ·simp only[h2,and_self,decide_true,Bool.not_true];exact iff_of_false (by decide) (fun a=>a ⟨h1,h2⟩)
 ·simp only[h2,decide_false,Bool.not_false];exact iff_of_true trivial (fun a=>h2 a.2)
theorem help_eq (n:Int) (x:mH) (hn:0≤n∧n≤1048576):EvB (fun _=>XaA.f x.f0 x.f1 x.f2 x.f3 n) (¬ helpP n x):=by
 have hww:wrap64 (n - 1)=n - 1:=w64 (by omega) (by omega)
 simp only[XaA.f,implFrom_eq,hww,Option.bind_some,decide_eq_true_eq]
 refine EvB.ite (fun h1=>EvB.ite (fun h2=>EvB.ite (fun h3=>EvB.now ?_) (fun h3=>EvB.yes (Ev.now _) (fun p=>h3 p.2.2.1))) (fun h2=>EvB.yes (Ev.now _) (fun p=>h2 p.2.1))) (fun h1=>EvB.yes (Ev.now _) (fun p=>h1 (by have:=p.1;omega)))
 by_cases h4:0≤x.f3∧x.f3≤20
 ·simp only[h4,and_self,decide_true,Bool.not_true];exact iff_of_false (by decide) (fun a=>a ⟨by omega,h2,h3,h4⟩)
 ·simp only[h4,decide_false,Bool.not_false];exact iff_of_true trivial (fun a=>h4 a.2.2.2)
theorem implThr_pairs (l:List mP) (hl:l.length≤1048576):EvB (fun k=>Xav.f k l) (∃ y ∈ l,¬ pairP y):=by
 obtain⟨r,q1,q2,q3⟩:=first_ev l (fun x=>¬ pairP x) (g:=fun i k=>XG.l0 k l (l.length:Int) (i:Int)) (by
  refine Ev.shift ?_
  simp only[XG.l0,Int.lt_irrefl,if_false]
  exact Ev.now _) (fun i x hx hi hn=>by
  have c0:(0:Int)≤(i:Int):=by omega
  have c1:(i:Int)<(l.length:Int):=by omega
  have er:rd_T172 l (i:Int)=x:=getD_get hx
  refine Ev.shift ?_
  simp only[XG.l0,c0,c1,if_true,er]
  exact Ev.bind ((pair_eq x).val hn) (Ev.pos rfl (Ev.now _))) (fun i x hx hi hn r h=>by
  have c0:(0:Int)≤(i:Int):=by omega
  have c1:(i:Int)<(l.length:Int):=by omega
  have er:rd_T172 l (i:Int)=x:=getD_get hx
  refine Ev.shift ?_
  simp only[XG.l0,c0,c1,if_true,er,succ64 hi (by omega)]
  exact Ev.bind ((pair_eq x).nval hn) (Ev.neg (by decide) h))
 refine⟨decide (r ≥ 0),?_,by rw[decide_eq_true_iff];exact q3⟩
 simp only[Xav.f,XG.f]
 exact Ev.bind q1 (Ev.now _)
theorem implThr_helps (n:Int) (hn:0≤n∧n≤1048576) (l:List mH) (hl:l.length≤1048576):EvB (fun k=>Xay.f k l n) (∃ y ∈ l,¬ helpP n y):=by
 obtain⟨r,q1,q2,q3⟩:=first_ev l (fun x=>¬ helpP n x) (g:=fun i k=>XF.l0 k l (l.length:Int) (i:Int) n) (by
  refine Ev.shift ?_
  simp only[XF.l0,Int.lt_irrefl,if_false]
  exact Ev.now _) (fun i x hx hi hb=>by
  have c0:(0:Int)≤(i:Int):=by omega
  have c1:(i:Int)<(l.length:Int):=by omega
  have er:rd_T174 l (i:Int)=x:=getD_get hx
  refine Ev.shift ?_
  simp only[XF.l0,c0,c1,if_true,er]
  exact Ev.bind ((help_eq n x hn).val hb) (Ev.pos rfl (Ev.now _))) (fun i x hx hi hb r h=>by
  have c0:(0:Int)≤(i:Int):=by omega
  have c1:(i:Int)<(l.length:Int):=by omega
  have er:rd_T174 l (i:Int)=x:=getD_get hx
  refine Ev.shift ?_
  simp only[XF.l0,c0,c1,if_true,er,succ64 hi (by omega)]
  exact Ev.bind ((help_eq n x hn).nval hb) (Ev.neg (by decide) h))
 refine⟨decide (r ≥ 0),?_,by rw[decide_eq_true_iff];exact q3⟩
 simp only[Xay.f,XF.f]
 exact Ev.bind q1 (Ev.now _)
theorem all_not {τ:Type} {l:List τ} {R:τ→Prop} (h:¬ ∃ x ∈ l,¬ R x):∀ x ∈ l,R x:=fun x hx=>Classical.byContradiction fun hn=>h ⟨x,hx,hn⟩
theorem Xbw (n:Int) (hn:0≤n∧n≤1048576) (x:mT) (h:smT x):EvB (fun k=>Xl.f k x.f0 x.f1 x.f2 x.f3 x.f4 n) (thrP n x):=by
 obtain⟨s1,s2,s3⟩:=h
 have bad:Ev (fun k=>Xl.j0 k true x.f0 x.f1 x.f2 x.f3 x.f4 n) false:=Ev.shift (by simp only[Xl.j0,if_true];exact Ev.now _)
 have hww:wrap64 ((x.f3.length:Int)+(x.f4.length:Int))=(x.f3.length:Int)+(x.f4.length:Int):=w64 (by omega) (by omega)
 have good:thrN x→(∀ y ∈ x.f0,opP y)→EvB (fun k=>Xl.j1 k false x.f0 x.f1 x.f2 x.f3 x.f4 n) (thrP n x):=fun hn1 hop=>by
  refine EvB.shift ?_
  simp only[Xl.j1,Bool.false_eq_true,if_false]
  refine EvB.bind (implThr_pairs x.f3 s2) (fun hp=>EvB.pos rfl (EvB.no (Ev.now _) (fun p=>hp.elim fun y hy=>hy.2 (p.2.2.1 y hy.1)))) (fun hp=>EvB.neg (by decide) ?_)
  refine EvB.bind (implThr_helps n hn x.f4 s3) (fun hq=>EvB.no (Ev.now _) (fun p=>hq.elim fun y hy=>hy.2 (p.2.2.2 y hy.1))) (fun hq=>EvB.yes (Ev.now _) ⟨hn1,hop,all_not hp,all_not hq⟩)
 have mid:x.f0.length≤8→(0≤x.f1∧x.f1≤x.f0.length)→(x.f2=true→x.f1<x.f0.length)→x.f3.length≤12→x.f4.length≤2→(∀ y ∈ x.f0,opP y)→EvB (fun k=>Xl.j0 k false x.f0 x.f1 x.f2 x.f3 x.f4 n) (thrP n x):=fun a1 a2 a3 a4 a5 hop=>by
  refine EvB.shift ?_
  simp only[Xl.j0,Bool.false_eq_true,if_false,hww]
  refine EvB.ite (fun b1=>good ⟨a1,a2,a3,fun a=>(by rw[b1] at a;cases a),a4,a5⟩ hop) (fun b1 => ?_)
  by_cases b2:(x.f3.length:Int)+(x.f4.length:Int) > 0
  ·simp only[b2,decide_true]
   refine EvB.no (Ev.shift (by simp only[Xl.j1,if_true];exact Ev.now _)) (fun p=>absurd (p.1.2.2.2.1 (by simpa using b1)) (by omega))
  ·simp only[b2,decide_false]
   exact good ⟨a1,a2,a3,fun _=>by omega,a4,a5⟩ hop
 simp only[Xl.f,implFrom_eq,Option.bind_some,decide_eq_true_eq]
 refine EvB.ite (fun h1=>EvB.no bad (fun p=>absurd p.1.1 (by omega))) (fun h1 => ?_)
 refine EvB.bind (implThr_ops x.f0 s1) (fun ho=>EvB.pos rfl (EvB.no bad (fun p=>ho.elim fun y hy=>hy.2 (p.2.1 y hy.1)))) (fun ho=>EvB.neg (by decide) ?_)
 have ho':=all_not ho
 refine EvB.ite (fun h2 => ?_) (fun h2=>EvB.no bad (fun p=>h2 p.1.2.1))
 refine EvB.ite (fun h3=>EvB.ite (fun h4=>EvB.no bad (fun p=>absurd (p.1.2.2.1 h3) (by omega))) (fun h4=>EvB.ite (fun h5=>EvB.no bad (fun p=>absurd p.1.2.2.2.2.1 (by omega))) (fun h5 => ?_)))
  (fun h3=>EvB.ite (fun h5=>EvB.no bad (fun p=>absurd p.1.2.2.2.2.1 (by omega))) (fun h5 => ?_))
 ·by_cases h6:(x.f4.length:Int) > 2
  ·simp only[h6,decide_true]
   exact EvB.no bad (fun p=>absurd p.1.2.2.2.2.2 (by omega))
  ·simp only[h6,decide_false]
   exact mid (by omega) h2 (fun _=>by omega) (by omega) (by omega) ho'
 ·by_cases h6:(x.f4.length:Int) > 2
  ·simp only[h6,decide_true]
   exact EvB.no bad (fun p=>absurd p.1.2.2.2.2.2 (by omega))
  ·simp only[h6,decide_false]
   exact mid (by omega) h2 (fun a=>absurd a h3) (by omega) (by omega) ho'
end Go.Proofs.YtmljebgideecjaaGreat.P2
