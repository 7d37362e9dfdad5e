/- A part of the proof of the law FnStarts: texts of this seat, merged (words, printed functions of the program, plain lemmas). Conditions: none of its own. -/
import Derived.Test.YthejoblnfpaojaaGreatPkFnStarts35
import Derived.Test.YthejoblnfpaojaaGreatPkFnStarts37
set_option linter.unusedSimpArgs false
set_option linter.unusedVariables false
set_option maxHeartbeats 8000000
set_option maxRecDepth 100000
namespace Go.Proofs.YthejoblnfpaojaaGreat.P
open Go.Proofs.YthejoblnfpaojaaGreatZ Go.RowKit Go.Proofs.YthejoblnfpaojaaGreatW.PrintWords Go.Proofs.YthejoblnfpaojaaGreatW.PrintLast Go.Proofs.YthejoblnfpaojaaGreatW.PrintMore
attribute [local go_sem] max2_int min2_int max_two min_two max_three min_three max_four min_four   -- for this text's walks alone
def XY.l0:Nat→Bool→List Int→Int→Int→List (S51)→List (S58)→List (S108)→Int→List (S80)→List Int→List Int→Int→List Int→Int→Option (List Int × Int × Bool)
 | 0,_,_,_,_,_,_,_,_,_,_,_,_,_,_=>none
 | k+1,x5,x17,x18,x19,x102000,x102001,x102002,x102003,x102004,x102005,x102006,x102007,x109000,x109001=>if x19<x18 then (if 0≤x19 then (if x19<(x17.length:Int) then (if 0≤(rd x17 x19) then (if (rd x17 x19)<(x102004.length:Int) then (if x5=true then ((X9.f k x109000 x109001 ((rd_T80 x102004 (rd x17 x19)).f1.f0) ((rd_T80 x102004 (rd x17 x19)).f1.f1) ((rd_T80 x102004 (rd x17 x19)).f1.f2) ((rd_T80 x102004 (rd x17 x19)).f5.f0) ((rd_T80 x102004 (rd x17 x19)).f5.f1)).bind fun t112=>((X3.f k x109000 x109001 ((rd_T80 x102004 (rd x17 x19)).f1.f0) ((rd_T80 x102004 (rd x17 x19)).f1.f1) ((rd_T80 x102004 (rd x17 x19)).f1.f2) ((rd_T80 x102004 (rd x17 x19)).f5.f0) ((rd_T80 x102004 (rd x17 x19)).f5.f1)).bind fun bt113=>(XY.l0 k t112 x17 x18 (wrap64 (x19+1)) x102000 x102001 x102002 x102003 x102004 x102005 x102006 x102007 bt113.1 bt113.2))) else ((X3.f k x109000 x109001 ((rd_T80 x102004 (rd x17 x19)).f1.f0) ((rd_T80 x102004 (rd x17 x19)).f1.f1) ((rd_T80 x102004 (rd x17 x19)).f1.f2) ((rd_T80 x102004 (rd x17 x19)).f5.f0) ((rd_T80 x102004 (rd x17 x19)).f5.f1)).bind fun bt117=>(XY.l0 k false x17 x18 (wrap64 (x19+1)) x102000 x102001 x102002 x102003 x102004 x102005 x102006 x102007 bt117.1 bt117.2))) else (none)) else (none)) else (none)) else (none)) else (some (x109000,x109001,x5))
def XY.f (k:Nat) (l0_0:List (S51)) (l0_1:List (S58)) (l0_2:List (S108)) (a0_3:Int) (l0_4:List (S80)) (l0_5:List Int) (l0_6:List Int) (a0_7:Int):Option (List Int × Int × Bool):=(Xc.f k l0_0 l0_1 l0_2 a0_3 l0_4 l0_5 l0_6 a0_7).bind fun t103=>(if t103=true then ((Xab.f l0_6 a0_7).bind fun bt104=>(XY.l0 k true l0_5 (l0_5.length:Int) 0 l0_0 l0_1 l0_2 a0_3 l0_4 l0_5 l0_6 a0_7 bt104.1 bt104.2)) else (some (([]:List Int),0,false)))
theorem XY.calls (k:Nat) (A0_0:Option Addr) (c0_0:Nat) (l0_0:List (S51)) (A0_1:Option Addr) (c0_1:Nat) (l0_1:List (S58)) (A0_2:Option Addr) (c0_2:Nat) (l0_2:List (S108)) (a0_3:Int) (A0_4:Option Addr) (c0_4:Nat) (l0_4:List (S80)) (A0_5:Option Addr) (c0_5:Nat) (l0_5:List Int) (A0_6:Option Addr) (c0_6:Nat) (l0_6:List Int) (a0_7:Int) (r1:List Int) (r2:Int) (r3:Bool) (w:World) (h0_0:Rw k51 w A0_0 c0_0 l0_0) (h0_1:Rw k58 w A0_1 c0_1 l0_1) (h0_2:Rw k108 w A0_2 c0_2 l0_2) (h0_4:Rw k80 w A0_4 c0_4 l0_4) (h0_5:Rw (Kd.int .i64) w A0_5 c0_5 l0_5) (h0_6:Rw (Kd.int .i64) w A0_6 c0_6 l0_6) (h:XY.f k l0_0 l0_1 l0_2 a0_3 l0_4 l0_5 l0_6 a0_7=some (r1,r2,r3)) :
  Calls Tryz.prog 13 #[.agg #[.slice A0_0 l0_0.length c0_0,.slice A0_1 l0_1.length c0_1,.slice A0_2 l0_2.length c0_2,.int .i64 a0_3,.slice A0_4 l0_4.length c0_4,.slice A0_5 l0_5.length c0_5,.slice A0_6 l0_6.length c0_6,.int .i64 a0_7]] w fun e w'=>∃ v0_:Value,e = .returned (.tuple #[.agg #[v0_,.int .i64 r2],.bool r3])∧Kd.R (Kd.int .i64) 3 w' w.heap.size (fun _=>True) v0_ r1∧Below w.heap.size w w':=by
 have hu37:=Tryz.underlying37
 have hu26:=Tryz.underlying26
 have hu80:=Tryz.underlying80
 have hu78:=Tryz.underlying78
 have hu56:=Tryz.underlying56
 obtain⟨HR0_0,HC0_0⟩:=h0_0
 obtain⟨HR0_1,HC0_1⟩:=h0_1
 obtain⟨HR0_2,HC0_2⟩:=h0_2
 obtain⟨HR0_4,HC0_4⟩:=h0_4
 obtain⟨HR0_5,HC0_5⟩:=h0_5
 obtain⟨HR0_6,HC0_6⟩:=h0_6
 have HB:=aM (Below.refl w.heap.size w)
 have H:=h
 unfold XY.f at H
 clear h
 replace H:=bE H;obtain⟨t103,A2,H⟩:=H
 go_enter Tryz.func13,Tryz.ntmps13
 go_wp2_with (first | (refine boxE 1 #[.slice A0_0 l0_0.length c0_0,.slice A0_1 l0_1.length c0_1,.slice A0_2 l0_2.length c0_2,.int .i64 a0_3,.slice A0_4 l0_4.length c0_4,.slice A0_5 l0_5.length c0_5,.slice A0_6 l0_6.length c0_6,.int .i64 a0_7] 37 ?_;intro gbz1 hg wz1 hbox hb;have BKz1:=aM (hbox);have GWz1:=aG hg HB;replace HB:=aS HB hb;clear hb hbox hg) | (refine boxE 2 #[.slice none 0 0,.int .i64 0] 26 ?_;intro gbz2 hg wz2 hbox hb;have BKz2:=aM (hbox);have GWz2:=aG hg HB;have NBz1:=aL hg BKz1;have NBz2:=aR hg BKz1;replace BKz1:=aB BKz1 hb;replace HB:=aS HB hb;clear hb hbox hg;have hnbz1:=nB NBz1 NBz2;have hczz1:=cZ8 BKz1.out;refine Stop.out ?_))
 refine⟨?_⟩
 cases t103
 case false =>
  rw[if_neg nft] at H
  simp only[Option.some.injEq,Prod.mk.injEq] at H
  obtain⟨rfl,rfl,rfl⟩:=H
  go_wp2_with (refine gB 14 10 Tryz.func14 (Xc.calls _ _ _ _ _ _ _ _ _ _ _ _ _ _ _ _ _ _ _ _ _ _ _ (rW HR0_0 HB HC0_0) (rW HR0_1 HB HC0_1) (rW HR0_2 HB HC0_2) (rW HR0_4 HB HC0_4) (rW HR0_5 HB HC0_5) (rW HR0_6 HB HC0_6) A2.out) ?_;intro wz3 hb;replace BKz1:=aB BKz1 hb;replace BKz2:=aB BKz2 hb;replace HB:=aS HB hb;clear hb;have hczz9:=cZ2 BKz2.out)
  refine bodyPost_ret (results_ct rfl _ _ gbz2 26 #[.slice none 0 0,.int .i64 0] (0,0) _ rfl (bP BKz2.out) Tryz.underlying26 rfl (by kernel_rfl)) rfl ?_
  exact⟨(Value.slice none 0 0),rE,(by first | exact Kd.R_nil _ _ _ _ _ | exact Kd.S_nil _ _ _ _ _ | exact Kd.V_nil _ _ _ _ _ | exact Kd.N_nil _ _ _ _ _ | exact Kd.Q_nil _ _ _ _ _),(hX HB.out)⟩
 rw[if_pos rfl] at H
 replace H:=bE H;obtain⟨⟨t104,t107⟩,A4,H⟩:=H
 try dsimp only at H
 have H':=aM H
 clear H
 go_wp2_with (first | (refine gB 14 10 Tryz.func14 (Xc.calls _ _ _ _ _ _ _ _ _ _ _ _ _ _ _ _ _ _ _ _ _ _ _ (rW HR0_0 HB HC0_0) (rW HR0_1 HB HC0_1) (rW HR0_2 HB HC0_2) (rW HR0_4 HB HC0_4) (rW HR0_5 HB HC0_5) (rW HR0_6 HB HC0_6) A2.out) ?_;intro wz3 hb;replace BKz1:=aB BKz1 hb;replace BKz2:=aB BKz2 hb;replace HB:=aS HB hb;clear hb;have hczz9:=cZ8 BKz1.out) | (refine goesM 78 15 Tryz.func78 #[.agg #[.slice A0_6 l0_6.length c0_6,.int .i64 a0_7]] ?_;refine(Xab.calls _ _ _ _ _ _ _ (rW HR0_6 HB HC0_6) A4.out).mono ?_;rintro e wz4 ⟨vz1,rfl,hoz1,hb⟩;refine⟨_,rfl,?_⟩;have HOz1:=aM (Kd.R_lower hoz1 (below_size (hX HB.out)));replace BKz1:=aB BKz1 hb;replace BKz2:=aB BKz2 hb;replace HB:=aS HB hb;clear hb hoz1) | (refine boxE 4 #[.slice none 0 0,.int .i64 0] 26 ?_;intro gbz3 hg wz5 hbox hb;have BKz3:=aM (hbox);have GWz3:=aG hg HB;have NBz3:=aL hg BKz1;have NBz4:=aR hg BKz1;have NBz5:=aL hg BKz2;have NBz6:=aR hg BKz2;replace HOz1:=aQ HOz1 hb;replace BKz1:=aB BKz1 hb;replace BKz2:=aB BKz2 hb;replace HB:=aS HB hb;clear hb hbox hg;obtain⟨Aoz1,coz1,eoz1⟩:=Kd.R_slice HOz1.out;subst eoz1;have hnbz2:=nB NBz4 NBz3;have hnbz3:=nB NBz6 NBz5;have hczz17:=cZ2 BKz3.out;have hczz19:=cZ8 BKz1.out))
 go_loopg [5,19] k (fun kq v5 v19 w'=>∃ (x5_1:Bool) (x19_1:Int) (x109000_1:List Int) (x109001_1:Int) (u109000:Value),v5 = .bool x5_1∧v19 = .int .i64 x19_1∧Aside0 (XY.l0 kq x5_1 l0_5 (l0_5.length:Int) x19_1 l0_0 l0_1 l0_2 a0_3 l0_4 l0_5 l0_6 a0_7 x109000_1 x109001_1=some (r1,r2,r3))∧Aside0 (kq≤k)∧Aside0 (Kd.R (Kd.int .i64) 3 w' w.heap.size (fun _=>True) u109000 x109000_1)∧Aside0 (w'.heap[gbz1]? = some (.cells #[(.slice A0_0 l0_0.length c0_0),(.slice A0_1 l0_1.length c0_1),(.slice A0_2 l0_2.length c0_2),.int .i64 a0_3,(.slice A0_4 l0_4.length c0_4),(.slice A0_5 l0_5.length c0_5),(.slice A0_6 l0_6.length c0_6),.int .i64 a0_7] 37 (0,0)))∧Aside0 (w'.heap[gbz2]? = some (.cells #[(.slice none 0 0),.int .i64 0] 26 (0,0)))∧Aside0 (w'.heap[gbz3]? = some (.cells #[u109000,.int .i64 x109001_1] 26 (0,0)))∧Aside0 (Below w.heap.size w w'))
 case atStart=>exact⟨(true),(0),(t104),(t107),(.slice Aoz1 t104.length coz1),rS,rS,H',⟨Nat.le_refl _⟩,⟨(Kd.R_mono (rF HOz1.out BKz3.out) (fun _ hk=>trivial))⟩,⟨(bF BKz1.out)⟩,⟨(bF BKz2.out)⟩,⟨(bP BKz3.out)⟩,⟨(hX HB.out)⟩⟩
 case round =>
  clear H'
  try clear hczz9
  try clear hczz17
  try clear hczz19
  try clear hczz1
  obtain⟨x5_1,x19_1,x109000_1,x109001_1,u109000,rfl,rfl,HA,HKy1,HO_y1,BKz1,BKz2,BKz3,HB⟩:=hrel
  cases gk with
  | zero=>exact absurd HA.out (by simp[XY.l0])
  | succ k1 =>
   have H:=HA.out
   clear HA
   simp only[XY.l0] at H
   revert H;refine iN ?_ ?_<;>intro c18b0 H
   ·simp only[Option.some.injEq,Prod.mk.injEq] at H
    obtain⟨rfl,rfl,rfl⟩:=H
    have hnbx1:=NBz4.out
    have hncx1:=NBz3.out
    have hnbx2:=NBz6.out
    have hncx2:=NBz5.out
    have hczx1:=cZ2 BKz3.out
    obtain⟨Aox1,cox1,eox1⟩:=Kd.R_slice HO_y1.out
    subst eox1
    have hnbx3:=NBz2.out
    have hncx3:=NBz1.out
    have hczx3:=cZ2 BKz2.out
    go_wp2
    refine bodyPost_ret (results_ct rfl _ _ gbz2 26 #[.slice Aox1 x109000_1.length cox1,.int .i64 x109001_1] (0,0) _ rfl (bP BKz2.out) Tryz.underlying26 rfl (by kernel_rfl)) rfl ?_
    exact⟨_,rE,(Kd.R_mono (rF HO_y1.out BKz2.out) (fun _ hk=>trivial)),(hX HB.out)⟩
   replace H:=ifQ H;obtain⟨c19b0,H⟩:=H
   replace H:=ifQ H;obtain⟨c20b0,H⟩:=H
   replace H:=ifQ H;obtain⟨c21b0,H⟩:=H
   replace H:=ifQ H;obtain⟨c22b0,H⟩:=H
   obtain⟨adx1,ex1,px1,qx1,hxx1⟩:=at_ic HR0_5 HB x19_1
   cases ex1
   have hnbx1:=NBz1.out
   have hncx1:=NBz2.out
   have hnbx2:=NBz3.out
   have hncx2:=NBz4.out
   have hczx1:=cZ8 BKz1.out
   obtain⟨adx2,Ax1,cx1,ex2,px2,qx2,hxx2,HCx1,HRx1⟩:=at_T80c HR0_4 HB (rd l0_5 x19_1)
   cases ex2
   go_wp2_with (refine boxE 8 #[.int .i64 0,.int .i64 0,.int .i64 0,.int .i64 0,.int .i64 0,.int .i64 0,.int .i64 0,.int .i64 0,.slice none 0 0] 80 ?_;intro gbx1 hg wx1 hbox hb;have BKx1:=aM (hbox);have GWx1:=aG hg HB;have NBx1:=aL hg BKz1;have NBx2:=aR hg BKz1;have NBx3:=aL hg BKz2;have NBx4:=aR hg BKz2;have NBx5:=aL hg BKz3;have NBx6:=aR hg BKz3;replace HO_y1:=aQ HO_y1 hb;replace BKz1:=aB BKz1 hb;replace BKz2:=aB BKz2 hb;replace BKz3:=aB BKz3 hb;replace HB:=aS HB hb;clear hb hbox hg;have hnbx3:=NBx2.out;have hncx3:=NBx1.out;have hnbx4:=nB NBx4 NBx3;have hnbx5:=nB NBx6 NBx5;have hczx9:=cZ9 BKx1.out;have hnbx6:=nB NBz6 NBz5;have hczx18:=cZ2 BKz3.out;obtain⟨Aox1,cox1,eox1⟩:=Kd.R_slice HO_y1.out;subst eox1;refine Stop.out ?_)
   refine⟨?_⟩
   cases x5_1
   case false =>
    rw[if_neg nft] at H
    replace H:=bE H;obtain⟨⟨t117,t120⟩,A43,H⟩:=H
    try dsimp only at H
    have H':=aM H
    clear H
    go_wp2_with (refine goesM 87 42 Tryz.func87 #[.agg #[.slice Aox1 x109000_1.length cox1,.int .i64 x109001_1],.agg #[.int .i64 ((rd_T80 l0_4 (rd l0_5 x19_1)).f1.f0),.int .i64 ((rd_T80 l0_4 (rd l0_5 x19_1)).f1.f1),.int .i64 ((rd_T80 l0_4 (rd l0_5 x19_1)).f1.f2)],.agg #[.int .i64 ((rd_T80 l0_4 (rd l0_5 x19_1)).f5.f0),.slice Ax1 ((rd_T80 l0_4 (rd l0_5 x19_1)).f5.f1).length cx1]] ?_;refine(X3.calls k1 _ _ x109000_1 x109001_1 ((rd_T80 l0_4 (rd l0_5 x19_1)).f1.f0) ((rd_T80 l0_4 (rd l0_5 x19_1)).f1.f1) ((rd_T80 l0_4 (rd l0_5 x19_1)).f1.f2) ((rd_T80 l0_4 (rd l0_5 x19_1)).f5.f0) _ _ ((rd_T80 l0_4 (rd l0_5 x19_1)).f5.f1) t117 t120 _ (rw2 (rR HO_y1.out BKx1.out) ((Kd.R_reads' HO_y1.out).2.1)) (rw2 (by exact Kd.C_below HRx1.out (hX HB.out)) HCx1.out) A43.out).mono ?_;rintro e wx2 ⟨vx1,rfl,hoz1,hb⟩;refine⟨_,rfl,?_⟩;have HOx1:=aM (Kd.R_lower (Kd.R_new' hoz1 (Kd.R_lt (rF HO_y1.out BKx1.out))) (below_size (hX HB.out)));replace HO_y1:=aM (Kd.R_elder' (rF HO_y1.out BKx1.out) (Kd.R_base hoz1) hb);replace BKz1:=aF BKz1 hb;replace BKz2:=aF BKz2 hb;replace BKz3:=aF BKz3 hb;replace BKx1:=aM (blk_below (g:=gbx1) (o:=.cells #[.int .i64 ((rd_T80 l0_4 (rd l0_5 x19_1)).f0),.int .i64 ((rd_T80 l0_4 (rd l0_5 x19_1)).f1.f0),.int .i64 ((rd_T80 l0_4 (rd l0_5 x19_1)).f1.f1),.int .i64 ((rd_T80 l0_4 (rd l0_5 x19_1)).f1.f2),.int .i64 ((rd_T80 l0_4 (rd l0_5 x19_1)).f2),.int .i64 ((rd_T80 l0_4 (rd l0_5 x19_1)).f3),.int .i64 ((rd_T80 l0_4 (rd l0_5 x19_1)).f4),.int .i64 ((rd_T80 l0_4 (rd l0_5 x19_1)).f5.f0),.slice Ax1 ((rd_T80 l0_4 (rd l0_5 x19_1)).f5.f1).length cx1] 80 (0,0)) (bP BKx1.out) hb);replace HB:=aS HB hb;clear hb hoz1;obtain⟨Aox2,cox2,eox2⟩:=Kd.R_slice HOx1.out;subst eox2;have hczx20:=cZ2 BKz3.out)
    go_roundg k1
    case measure=>have:=HKy1.out;omega
    case rel=>exact⟨(false),(wrap64 (x19_1+1)),(t117),(t120),(.slice Aox2 t117.length cox2),rS,rS,H',⟨by have:=HKy1.out;omega⟩,⟨(Kd.R_mono (rF HOx1.out BKz3.out) (fun _ hk=>trivial))⟩,⟨(bF BKz1.out)⟩,⟨(bF BKz2.out)⟩,⟨(bP BKz3.out)⟩,⟨(hX HB.out)⟩⟩
   rw[if_pos rfl] at H
   replace H:=bE H;obtain⟨t112,A24,H⟩:=H
   replace H:=bE H;obtain⟨⟨t113,t116⟩,A25,H⟩:=H
   try dsimp only at H
   have H':=aM H
   clear H
   go_wp2_with (first | (go_at_call 86;(with_reducible refine(X9.calls k1 _ _ x109000_1 x109001_1 ((rd_T80 l0_4 (rd l0_5 x19_1)).f1.f0) ((rd_T80 l0_4 (rd l0_5 x19_1)).f1.f1) ((rd_T80 l0_4 (rd l0_5 x19_1)).f1.f2) ((rd_T80 l0_4 (rd l0_5 x19_1)).f5.f0) _ _ ((rd_T80 l0_4 (rd l0_5 x19_1)).f5.f1) t112 _ (rw2 (rR HO_y1.out BKx1.out) ((Kd.R_reads' HO_y1.out).2.1)) (rw2 (by exact Kd.C_below HRx1.out (hX HB.out)) HCx1.out) A24.out).mono ?_);rintro e wx2 ⟨rfl,hb⟩;replace HO_y1:=aM (Kd.R_below (rF HO_y1.out BKx1.out) hb);replace BKz1:=aF BKz1 hb;replace BKz2:=aF BKz2 hb;replace BKz3:=aF BKz3 hb;replace BKx1:=aM (blk_below (g:=gbx1) (o:=.cells #[.int .i64 ((rd_T80 l0_4 (rd l0_5 x19_1)).f0),.int .i64 ((rd_T80 l0_4 (rd l0_5 x19_1)).f1.f0),.int .i64 ((rd_T80 l0_4 (rd l0_5 x19_1)).f1.f1),.int .i64 ((rd_T80 l0_4 (rd l0_5 x19_1)).f1.f2),.int .i64 ((rd_T80 l0_4 (rd l0_5 x19_1)).f2),.int .i64 ((rd_T80 l0_4 (rd l0_5 x19_1)).f3),.int .i64 ((rd_T80 l0_4 (rd l0_5 x19_1)).f4),.int .i64 ((rd_T80 l0_4 (rd l0_5 x19_1)).f5.f0),.slice Ax1 ((rd_T80 l0_4 (rd l0_5 x19_1)).f5.f1).length cx1] 80 (0,0)) (bP BKx1.out) hb);replace HB:=aS HB hb;clear hb;have hczx20:=cZ2 BKz3.out;have hczx22:=cZ9 BKx1.out) | (refine goesM 87 42 Tryz.func87 #[.agg #[.slice Aox1 x109000_1.length cox1,.int .i64 x109001_1],.agg #[.int .i64 ((rd_T80 l0_4 (rd l0_5 x19_1)).f1.f0),.int .i64 ((rd_T80 l0_4 (rd l0_5 x19_1)).f1.f1),.int .i64 ((rd_T80 l0_4 (rd l0_5 x19_1)).f1.f2)],.agg #[.int .i64 ((rd_T80 l0_4 (rd l0_5 x19_1)).f5.f0),.slice Ax1 ((rd_T80 l0_4 (rd l0_5 x19_1)).f5.f1).length cx1]] ?_;refine(X3.calls _ _ _ _ _ _ _ _ _ _ _ _ _ _ _ (rw2 (cX (Kd.R_reads' HO_y1.out).2.2) ((Kd.R_reads' HO_y1.out).2.1)) (rw2 (by exact Kd.C_below HRx1.out (hX HB.out)) HCx1.out) A25.out).mono ?_;rintro e wx3 ⟨vx1,rfl,hoz1,hb⟩;refine⟨_,rfl,?_⟩;have HOx1:=aM (Kd.R_lower (Kd.R_new' hoz1 (Kd.R_lt (rX HO_y1.out))) (below_size (hX HB.out)));replace HO_y1:=aM (Kd.R_elder' (rX HO_y1.out) (Kd.R_base hoz1) hb);replace BKz1:=aB BKz1 hb;replace BKz2:=aB BKz2 hb;replace BKz3:=aB BKz3 hb;replace BKx1:=aM (blk_below (g:=gbx1) (o:=.cells #[.int .i64 ((rd_T80 l0_4 (rd l0_5 x19_1)).f0),.int .i64 ((rd_T80 l0_4 (rd l0_5 x19_1)).f1.f0),.int .i64 ((rd_T80 l0_4 (rd l0_5 x19_1)).f1.f1),.int .i64 ((rd_T80 l0_4 (rd l0_5 x19_1)).f1.f2),.int .i64 ((rd_T80 l0_4 (rd l0_5 x19_1)).f2),.int .i64 ((rd_T80 l0_4 (rd l0_5 x19_1)).f3),.int .i64 ((rd_T80 l0_4 (rd l0_5 x19_1)).f4),.int .i64 ((rd_T80 l0_4 (rd l0_5 x19_1)).f5.f0),.slice Ax1 ((rd_T80 l0_4 (rd l0_5 x19_1)).f5.f1).length cx1] 80 (0,0)) (bX BKx1.out) hb);replace HB:=aS HB hb;clear hb hoz1;obtain⟨Aox2,cox2,eox2⟩:=Kd.R_slice HOx1.out;subst eox2;have hczx31:=cZ2 BKz3.out))
   go_roundg k1
   case measure=>have:=HKy1.out;omega
   case rel=>exact⟨(t112),(wrap64 (x19_1+1)),(t113),(t116),(.slice Aox2 t113.length cox2),rS,rS,H',⟨by have:=HKy1.out;omega⟩,⟨(Kd.R_mono (rF HOx1.out BKz3.out) (fun _ hk=>trivial))⟩,⟨(bF BKz1.out)⟩,⟨(bF BKz2.out)⟩,⟨(bP BKz3.out)⟩,⟨(hX HB.out)⟩⟩
mutual
def Xr.l0:Nat→List (S80)→Int→Int→List (S51)→List (S58)→List (S108)→Int→List (S80)→List Int→List Int→Int→Option (Bool)
 | 0,_,_,_,_,_,_,_,_,_,_,_=>none
 | k+1,x11,x12,x13,x102000,x102001,x102002,x102003,x102004,x102005,x102006,x102007=>if x13<x12 then (if 0≤x13 then (if x13<(x11.length:Int) then (if ((rd_T80 x11 x13).f4) ≥ 0 then (if ((rd_T80 x11 x13).f3)<0 then (Xr.j1 k x13 x11 x12 x13 true x102000 x102001 x102002 x102003 x102004 x102005 x102006 x102007 ((rd_T80 x11 x13).f0) ((rd_T80 x11 x13).f1.f0) ((rd_T80 x11 x13).f1.f1) ((rd_T80 x11 x13).f1.f2) ((rd_T80 x11 x13).f2) ((rd_T80 x11 x13).f3) ((rd_T80 x11 x13).f4) ((rd_T80 x11 x13).f5.f0) ((rd_T80 x11 x13).f5.f1)) else (Xr.j1 k x13 x11 x12 x13 (decide (((rd_T80 x11 x13).f3) > ((rd_T80 x11 x13).f4))) x102000 x102001 x102002 x102003 x102004 x102005 x102006 x102007 ((rd_T80 x11 x13).f0) ((rd_T80 x11 x13).f1.f0) ((rd_T80 x11 x13).f1.f1) ((rd_T80 x11 x13).f1.f2) ((rd_T80 x11 x13).f2) ((rd_T80 x11 x13).f3) ((rd_T80 x11 x13).f4) ((rd_T80 x11 x13).f5.f0) ((rd_T80 x11 x13).f5.f1))) else (Xr.j1 k x13 x11 x12 x13 false x102000 x102001 x102002 x102003 x102004 x102005 x102006 x102007 ((rd_T80 x11 x13).f0) ((rd_T80 x11 x13).f1.f0) ((rd_T80 x11 x13).f1.f1) ((rd_T80 x11 x13).f1.f2) ((rd_T80 x11 x13).f2) ((rd_T80 x11 x13).f3) ((rd_T80 x11 x13).f4) ((rd_T80 x11 x13).f5.f0) ((rd_T80 x11 x13).f5.f1))) else (none)) else (none)) else (some true)
def Xr.j1:Nat→Int→List (S80)→Int→Int→Bool→List (S51)→List (S58)→List (S108)→Int→List (S80)→List Int→List Int→Int→Int→Int→Int→Int→Int→Int→Int→Int→List Int→Option (Bool)
 | 0,_,_,_,_,_,_,_,_,_,_,_,_,_,_,_,_,_,_,_,_,_,_=>none
 | k+1,x3,x11,x12,x13,x32,x102000,x102001,x102002,x102003,x102004,x102005,x102006,x102007,x105000,x105001,x105002,x105003,x105004,x105005,x105006,x105007,x105008=>if x32=true then (some false) else (if 0≤x3 then (if x3≤(x102004.length:Int) then ((some (x102004.take (x3:Int).toNat:List (S80))).bind fun y105=>(Xr.l1 k x11 x12 x13 y105 (y105.length:Int) 0 x102000 x102001 x102002 x102003 x102004 x102005 x102006 x102007 x105000 x105001 x105002 x105003 x105004 x105005 x105006 x105007 x105008)) else (none)) else (none))
def Xr.l1:Nat→List (S80)→Int→Int→List (S80)→Int→Int→List (S51)→List (S58)→List (S108)→Int→List (S80)→List Int→List Int→Int→Int→Int→Int→Int→Int→Int→Int→Int→List Int→Option (Bool)
 | 0,_,_,_,_,_,_,_,_,_,_,_,_,_,_,_,_,_,_,_,_,_,_,_=>none
 | k+1,x11,x12,x13,x36,x37,x38,x102000,x102001,x102002,x102003,x102004,x102005,x102006,x102007,x105000,x105001,x105002,x105003,x105004,x105005,x105006,x105007,x105008=>if x38<x37 then (if 0≤x38 then (if x38<(x36.length:Int) then (if ((rd_T80 x36 x38).f0)=x105000 then ((XaR.f ((rd_T80 x36 x38).f0) ((rd_T80 x36 x38).f1.f0) ((rd_T80 x36 x38).f1.f1) ((rd_T80 x36 x38).f1.f2) ((rd_T80 x36 x38).f2) ((rd_T80 x36 x38).f3) ((rd_T80 x36 x38).f4) ((rd_T80 x36 x38).f5.f0) ((rd_T80 x36 x38).f5.f1) x105000 x105001 x105002 x105003 x105004 x105005 x105006 x105007 x105008).bind fun t111=>(if t111=true then (Xr.l1 k x11 x12 x13 x36 x37 (wrap64 (x38+1)) x102000 x102001 x102002 x102003 x102004 x102005 x102006 x102007 x105000 x105001 x105002 x105003 x105004 x105005 x105006 x105007 x105008) else (some false))) else (Xr.l1 k x11 x12 x13 x36 x37 (wrap64 (x38+1)) x102000 x102001 x102002 x102003 x102004 x102005 x102006 x102007 x105000 x105001 x105002 x105003 x105004 x105005 x105006 x105007 x105008)) else (none)) else (none)) else (Xr.l0 k x11 x12 (wrap64 (x13+1)) x102000 x102001 x102002 x102003 x102004 x102005 x102006 x102007)
end
def Xr.f (k:Nat) (l0_0:List (S51)) (l0_1:List (S58)) (l0_2:List (S108)) (a0_3:Int) (l0_4:List (S80)) (l0_5:List Int) (l0_6:List Int) (a0_7:Int):Option (Bool):=(Xc.f k l0_0 l0_1 l0_2 a0_3 l0_4 l0_5 l0_6 a0_7).bind fun t102=>(if t102=true then (Xr.l0 k l0_4 (l0_4.length:Int) 0 l0_0 l0_1 l0_2 a0_3 l0_4 l0_5 l0_6 a0_7) else (some false))
theorem Xr.calls (k:Nat) (A0_0:Option Addr) (c0_0:Nat) (l0_0:List (S51)) (A0_1:Option Addr) (c0_1:Nat) (l0_1:List (S58)) (A0_2:Option Addr) (c0_2:Nat) (l0_2:List (S108)) (a0_3:Int) (A0_4:Option Addr) (c0_4:Nat) (l0_4:List (S80)) (A0_5:Option Addr) (c0_5:Nat) (l0_5:List Int) (A0_6:Option Addr) (c0_6:Nat) (l0_6:List Int) (a0_7:Int) (r:Bool) (w:World) (h0_0:Rw k51 w A0_0 c0_0 l0_0) (h0_1:Rw k58 w A0_1 c0_1 l0_1) (h0_2:Rw k108 w A0_2 c0_2 l0_2) (h0_4:Rw k80 w A0_4 c0_4 l0_4) (h0_5:Rw (Kd.int .i64) w A0_5 c0_5 l0_5) (h0_6:Rw (Kd.int .i64) w A0_6 c0_6 l0_6) (H:Xr.f k l0_0 l0_1 l0_2 a0_3 l0_4 l0_5 l0_6 a0_7=some r) :
  Calls Tryz.prog 68 #[.agg #[.slice A0_0 l0_0.length c0_0,.slice A0_1 l0_1.length c0_1,.slice A0_2 l0_2.length c0_2,.int .i64 a0_3,.slice A0_4 l0_4.length c0_4,.slice A0_5 l0_5.length c0_5,.slice A0_6 l0_6.length c0_6,.int .i64 a0_7]] w fun e w'=>e = .returned (.bool r)∧Below w.heap.size w w':=by
 have hu37:=Tryz.underlying37
 have hu80:=Tryz.underlying80
 obtain⟨HR0_0,HC0_0⟩:=h0_0
 obtain⟨HR0_1,HC0_1⟩:=h0_1
 obtain⟨HR0_2,HC0_2⟩:=h0_2
 obtain⟨HR0_4,HC0_4⟩:=h0_4
 obtain⟨HR0_5,HC0_5⟩:=h0_5
 obtain⟨HR0_6,HC0_6⟩:=h0_6
 have HB:=aM (Below.refl w.heap.size w)
 unfold Xr.f at H
 replace H:=bE H;obtain⟨t102,A2,H⟩:=H
 go_enter Tryz.func68,Tryz.ntmps68
 go_wp2_with (refine boxE 1 #[.slice A0_0 l0_0.length c0_0,.slice A0_1 l0_1.length c0_1,.slice A0_2 l0_2.length c0_2,.int .i64 a0_3,.slice A0_4 l0_4.length c0_4,.slice A0_5 l0_5.length c0_5,.slice A0_6 l0_6.length c0_6,.int .i64 a0_7] 37 ?_;intro gbz1 hg wz1 hbox hb;have BKz1:=aM (hbox);have GWz1:=aG hg HB;replace HB:=aS HB hb;clear hb hbox hg;have hczz1:=cZ8 BKz1.out;refine Stop.out ?_)
 refine⟨?_⟩
 cases t102
 case false =>
  rw[if_neg nft] at H
  obtain rfl:=sI H
  go_wp2_with (refine gB 14 8 Tryz.func14 (Xc.calls _ _ _ _ _ _ _ _ _ _ _ _ _ _ _ _ _ _ _ _ _ _ _ (rW HR0_0 HB HC0_0) (rW HR0_1 HB HC0_1) (rW HR0_2 HB HC0_2) (rW HR0_4 HB HC0_4) (rW HR0_5 HB HC0_5) (rW HR0_6 HB HC0_6) A2.out) ?_;intro wz2 hb;replace BKz1:=aB BKz1 hb;replace HB:=aS HB hb;clear hb)
  go_ret
  exact⟨rE,(hX HB.out)⟩
 rw[if_pos rfl] at H
 have H':=aM H
 clear H
 go_wp2_with (refine gB 14 8 Tryz.func14 (Xc.calls _ _ _ _ _ _ _ _ _ _ _ _ _ _ _ _ _ _ _ _ _ _ _ (rW HR0_0 HB HC0_0) (rW HR0_1 HB HC0_1) (rW HR0_2 HB HC0_2) (rW HR0_4 HB HC0_4) (rW HR0_5 HB HC0_5) (rW HR0_6 HB HC0_6) A2.out) ?_;intro wz2 hb;replace BKz1:=aB BKz1 hb;replace HB:=aS HB hb;clear hb;have hczz9:=cZ8 BKz1.out)
 go_loopg [13] k (fun kq v13 w'=>∃ (x13_1:Int),v13 = .int .i64 x13_1∧Aside0 (Xr.l0 kq l0_4 (l0_4.length:Int) x13_1 l0_0 l0_1 l0_2 a0_3 l0_4 l0_5 l0_6 a0_7=some r)∧Aside0 (kq≤k)∧Aside0 (w'.heap[gbz1]? = some (.cells #[(.slice A0_0 l0_0.length c0_0),(.slice A0_1 l0_1.length c0_1),(.slice A0_2 l0_2.length c0_2),.int .i64 a0_3,(.slice A0_4 l0_4.length c0_4),(.slice A0_5 l0_5.length c0_5),(.slice A0_6 l0_6.length c0_6),.int .i64 a0_7] 37 (0,0)))∧Aside0 (Below w.heap.size w w'))
 case atStart=>exact⟨(0),rS,H',⟨Nat.le_refl _⟩,⟨(bX BKz1.out)⟩,⟨(hX HB.out)⟩⟩
 case round =>
  clear H'
  try clear hczz1
  try clear hczz9
  obtain⟨x13_1,rfl,HA,HKy1,BKz1,HB⟩:=hrel
  cases gk with
  | zero=>exact absurd HA.out (by simp[Xr.l0])
  | succ k1 =>
   have H:=HA.out
   clear HA
   simp only[Xr.l0] at H
   revert H;refine iN ?_ ?_<;>intro c8b0 H
   ·obtain rfl:=sI H
    exact fS
   replace H:=ifQ H;obtain⟨c9b0,H⟩:=H
   replace H:=ifQ H;obtain⟨c10b0,H⟩:=H
   have HC11:=aM H
   clear H
   obtain⟨adx1,Ax1,cx1,ex1,px1,qx1,hxx1,HCx1,HRx1⟩:=at_T80c HR0_4 HB x13_1
   cases ex1
   go_upto_region 6 with((with_reducible refine gate_dst (N:=4) rfl ?_);refine boxE 4 #[.int .i64 0,.int .i64 0,.int .i64 0,.int .i64 0,.int .i64 0,.int .i64 0,.int .i64 0,.int .i64 0,.slice none 0 0] 80 ?_;intro gbx1 hg wx1 hbox hb;have BKx1:=aM (hbox);have GWx1:=aG hg HB;have NBx1:=aL hg BKz1;have NBx2:=aR hg BKz1;replace BKz1:=aB BKz1 hb;replace HB:=aS HB hb;clear hb hbox hg;have hnbx1:=nB NBx2 NBx1;have hczx1:=cZ9 BKx1.out)
   (try simp only[Act.put,List.setIfInBounds_toArray,List.set_cons_zero,List.set_cons_succ])
   go_cut [32] (fun vx1 wc=>∃ (kq:Nat) (x32_10:Bool),vx1 = .bool x32_10∧Aside0 (Xr.j1 kq x13_1 l0_4 (l0_4.length:Int) x13_1 x32_10 l0_0 l0_1 l0_2 a0_3 l0_4 l0_5 l0_6 a0_7 ((rd_T80 l0_4 x13_1).f0) ((rd_T80 l0_4 x13_1).f1.f0) ((rd_T80 l0_4 x13_1).f1.f1) ((rd_T80 l0_4 x13_1).f1.f2) ((rd_T80 l0_4 x13_1).f2) ((rd_T80 l0_4 x13_1).f3) ((rd_T80 l0_4 x13_1).f4) ((rd_T80 l0_4 x13_1).f5.f0) ((rd_T80 l0_4 x13_1).f5.f1)=some r)∧Aside0 (kq≤k1)∧Aside0 (wc.heap[gbz1]? = some (.cells #[(.slice A0_0 l0_0.length c0_0),(.slice A0_1 l0_1.length c0_1),(.slice A0_2 l0_2.length c0_2),.int .i64 a0_3,(.slice (some adx1) l0_4.length c0_4),(.slice A0_5 l0_5.length c0_5),(.slice A0_6 l0_6.length c0_6),.int .i64 a0_7] 37 (0,0)))∧Aside0 (wc.heap[gbx1]? = some (.cells #[.int .i64 ((rd_T80 l0_4 x13_1).f0),.int .i64 ((rd_T80 l0_4 x13_1).f1.f0),.int .i64 ((rd_T80 l0_4 x13_1).f1.f1),.int .i64 ((rd_T80 l0_4 x13_1).f1.f2),.int .i64 ((rd_T80 l0_4 x13_1).f2),.int .i64 ((rd_T80 l0_4 x13_1).f3),.int .i64 ((rd_T80 l0_4 x13_1).f4),.int .i64 ((rd_T80 l0_4 x13_1).f5.f0),(.slice Ax1 ((rd_T80 l0_4 x13_1).f5.f1).length cx1)] 80 (0,0)))∧Aside0 (Below w.heap.size w wc))
   case first =>
    have H:=HC11.out
    clear HC11
    revert H;refine iN ?_ ?_<;>intro c15b0 H
    ·(first | rw[c15b0] | (simp only[i64_w,i32_w];rw[c15b0]) | skip)
     have H':=aM H
     clear H
     have hnbw1:=NBx2.out
     have hncw1:=NBx1.out
     have hczw1:=cZ9 BKx1.out
     go_wp2
     go_meet
     case rel=>exact⟨_,(false),rS,H',⟨by have:=HKy1.out;first | omega | exact Nat.le_refl _⟩,⟨(bF BKz1.out)⟩,⟨(bP BKx1.out)⟩,⟨(hX HB.out)⟩⟩
    (first | rw[c15b0] | (simp only[i64_w,i32_w];rw[c15b0]) | skip)
    revert H;refine iP ?_ ?_<;>intro c16b0 H
    ·have H':=aM H
     clear H
     have hnbw1:=NBx2.out
     have hncw1:=NBx1.out
     have hczw1:=cZ9 BKx1.out
     go_wp2
     go_meet
     case rel=>exact⟨_,(true),rS,H',⟨by have:=HKy1.out;first | omega | exact Nat.le_refl _⟩,⟨(bF BKz1.out)⟩,⟨(bP BKx1.out)⟩,⟨(hX HB.out)⟩⟩
    have H':=aM H
    clear H
    have hnbw1:=NBx2.out
    have hncw1:=NBx1.out
    have hczw1:=cZ9 BKx1.out
    go_wp2
    go_meet
    case rel=>exact⟨_,(decide (((rd_T80 l0_4 x13_1).f3) > ((rd_T80 l0_4 x13_1).f4))),rS,H',⟨by have:=HKy1.out;first | omega | exact Nat.le_refl _⟩,⟨(bF BKz1.out)⟩,⟨(bP BKx1.out)⟩,⟨(hX HB.out)⟩⟩
   case rest =>
    clear HC11
    try clear c8b0
    try clear c9b0
    try clear c10b0
    try clear hczx1
    try clear hczz1
    try clear hczz9
    try clear hxx1
    try clear px1
    try clear qx1
    obtain⟨kq,x32_10,rfl,HA,HJw1,BKz1,BKx1,HB⟩:=hcut
    cases kq with
    | zero=>exact absurd HA.out (by simp[Xr.j1])
    | succ kj10 =>
     have H:=HA.out
     clear HA
     simp only[Xr.j1] at H
     cases x32_10
     case true =>
      rw[if_pos rfl] at H
      exact fR
     rw[if_neg nft] at H
     replace H:=ifP H;obtain⟨c24,H⟩:=H
     have c24b0:=eq_true c24
     have c24b1:=decide_eq_true c24
     clear c24
     replace H:=ifP H;obtain⟨c25,H⟩:=H
     have c25b0:=eq_true c25
     have c25b1:=decide_eq_true c25
     clear c25
     replace H:=sE H;obtain⟨y105,Ny105,H⟩:=H
     have H':=aM H
     clear H
     have hnbv1:=nB NBx1 NBx2
     have hczv1:=cZ8 BKz1.out
     have qv1:(x13_1:Int)≤((l0_4.length:Int):Int):=odA
     obtain⟨iv1,hiv1,_,hszv1,_⟩:=info_parts info80
     have hroomv1:l0_4.length≤c0_4:=HC0_4.out
     have hCv1:Kd.C k80 _ (some adx1) l0_4.length l0_4:=HR0_4.out
     have hcutv1:=cut_to (P:=Tryz.prog) 35 80 .i64 Tryz.underlying35 hiv1 (some adx1) l0_4.length c0_4 x13_1 (odA) qv1 hroomv1
     have hrv1:=Kd.C_take (m:=(x13_1:Int).toNat) hCv1 (by omega)
     have hyv1:y105.length=(x13_1:Int).toNat:=(by rw[Ny105.out,List.length_take];omega)
     rw[← Ny105.out] at hrv1
     rw[← hyv1] at hcutv1
     have HRv1:=aM hrv1
     have HCv1:=aM (show y105.length≤c0_4 from by omega)
     clear hrv1 hCv1 hroomv1 hiv1 hszv1
     have KYv1:=aM hyv1
     clear hyv1
     replace qv1:=eq_true qv1
     go_wp2
     go_loopg [38] kj10 (fun kq v38 w'=>∃ (x38_3:Int),v38 = .int .i64 x38_3∧Aside0 (Xr.l1 kq l0_4 (l0_4.length:Int) x13_1 y105 (y105.length:Int) x38_3 l0_0 l0_1 l0_2 a0_3 l0_4 l0_5 l0_6 a0_7 ((rd_T80 l0_4 x13_1).f0) ((rd_T80 l0_4 x13_1).f1.f0) ((rd_T80 l0_4 x13_1).f1.f1) ((rd_T80 l0_4 x13_1).f1.f2) ((rd_T80 l0_4 x13_1).f2) ((rd_T80 l0_4 x13_1).f3) ((rd_T80 l0_4 x13_1).f4) ((rd_T80 l0_4 x13_1).f5.f0) ((rd_T80 l0_4 x13_1).f5.f1)=some r)∧Aside0 (kq≤kj10)∧Aside0 (w'.heap[gbz1]? = some (.cells #[(.slice A0_0 l0_0.length c0_0),(.slice A0_1 l0_1.length c0_1),(.slice A0_2 l0_2.length c0_2),.int .i64 a0_3,(.slice (some adx1) l0_4.length c0_4),(.slice A0_5 l0_5.length c0_5),(.slice A0_6 l0_6.length c0_6),.int .i64 a0_7] 37 (0,0)))∧Aside0 (w'.heap[gbx1]? = some (.cells #[.int .i64 ((rd_T80 l0_4 x13_1).f0),.int .i64 ((rd_T80 l0_4 x13_1).f1.f0),.int .i64 ((rd_T80 l0_4 x13_1).f1.f1),.int .i64 ((rd_T80 l0_4 x13_1).f1.f2),.int .i64 ((rd_T80 l0_4 x13_1).f2),.int .i64 ((rd_T80 l0_4 x13_1).f3),.int .i64 ((rd_T80 l0_4 x13_1).f4),.int .i64 ((rd_T80 l0_4 x13_1).f5.f0),(.slice Ax1 ((rd_T80 l0_4 x13_1).f5.f1).length cx1)] 80 (0,0)))∧Aside0 (Below w.heap.size w w'))
     case atStart=>exact⟨(0),rS,H',⟨Nat.le_refl _⟩,⟨(bX BKz1.out)⟩,⟨(bX BKx1.out)⟩,⟨(hX HB.out)⟩⟩
     case round =>
      clear H'
      try clear c8b0
      try clear c9b0
      try clear c10b0
      try clear c24
      try clear c24b0
      try clear c24b1
      try clear c25
      try clear c25b0
      try clear c25b1
      try clear qv1
      try clear hczx1
      try clear hczv1
      try clear hczz1
      try clear hczz9
      try clear hxx1
      try clear px1
      try clear qx1
      obtain⟨x38_3,rfl,HA,HKu1,BKz1,BKx1,HB⟩:=hrel
      cases gk with
      | zero=>exact absurd HA.out (by simp[Xr.l1])
      | succ k3 =>
       have H:=HA.out
       clear HA
       simp only[Xr.l1] at H
       revert H;refine iN ?_ ?_<;>intro c29b0 H
       ·have H':=aM H
        clear H
        go_wp2
        go_roundg k3
        case measure=>have:=HKy1.out;have:=HJw1.out;have:=HKu1.out;omega
        case rel=>exact⟨(wrap64 (x13_1+1)),rS,H',⟨by have:=HKy1.out;have:=HJw1.out;have:=HKu1.out;omega⟩,⟨(bX BKz1.out)⟩,⟨(hX HB.out)⟩⟩
       replace H:=ifQ H;obtain⟨c30b0,H⟩:=H
       replace H:=ifQ H;obtain⟨c31b0,H⟩:=H
       obtain⟨adt1,At1,ct1,et1,pt1,qt1,hxt1,HCt1,HRt1⟩:=at_T80c HRv1 HB x38_3
       obtain rfl:adx1=adt1:=(by injection et1)
       go_wp2_with (refine boxE 6 #[.int .i64 0,.int .i64 0,.int .i64 0,.int .i64 0,.int .i64 0,.int .i64 0,.int .i64 0,.int .i64 0,.slice none 0 0] 80 ?_;intro gbt1 hg wt1 hbox hb;have BKt1:=aM (hbox);have GWt1:=aG hg HB;have NBt1:=aL hg BKz1;have NBt2:=aR hg BKz1;have NBt3:=aL hg BKx1;have NBt4:=aR hg BKx1;replace BKz1:=aB BKz1 hb;replace BKx1:=aB BKx1 hb;replace HB:=aS HB hb;clear hb hbox hg;have hnbt1:=nB NBt2 NBt1;have hnbt2:=nB NBt4 NBt3;have hczt1:=cZ9 BKt1.out;have hnbt3:=nB NBx2 NBx1;have hczt10:=cZ9 BKx1.out;refine Stop.out ?_)
       refine⟨?_⟩
       revert H;refine eN ?_ ?_<;>intro c32b0 c32b1 H
       ·have H':=aM H
        clear H
        go_wp2
        go_roundg k3
        case measure=>have:=HKy1.out;have:=HJw1.out;have:=HKu1.out;omega
        case rel=>exact⟨(wrap64 (x38_3+1)),rS,H',⟨by have:=HKy1.out;have:=HJw1.out;have:=HKu1.out;omega⟩,⟨(bF BKz1.out)⟩,⟨(bF BKx1.out)⟩,⟨(hX HB.out)⟩⟩
       replace H:=bE H;obtain⟨t111,A33,H⟩:=H
       cases t111
       case false =>
        rw[if_neg nft] at H
        obtain rfl:=sI H
        go_wp2_with (go_at_call 61;(with_reducible refine(XaR.calls ((rd_T80 y105 x38_3).f0) ((rd_T80 y105 x38_3).f1.f0) ((rd_T80 y105 x38_3).f1.f1) ((rd_T80 y105 x38_3).f1.f2) ((rd_T80 y105 x38_3).f2) ((rd_T80 y105 x38_3).f3) ((rd_T80 y105 x38_3).f4) ((rd_T80 y105 x38_3).f5.f0) _ _ ((rd_T80 y105 x38_3).f5.f1) ((rd_T80 l0_4 x13_1).f0) ((rd_T80 l0_4 x13_1).f1.f0) ((rd_T80 l0_4 x13_1).f1.f1) ((rd_T80 l0_4 x13_1).f1.f2) ((rd_T80 l0_4 x13_1).f2) ((rd_T80 l0_4 x13_1).f3) ((rd_T80 l0_4 x13_1).f4) ((rd_T80 l0_4 x13_1).f5.f0) _ _ ((rd_T80 l0_4 x13_1).f5.f1) false _ (rw2 (by exact Kd.C_below HRt1.out (hX HB.out)) HCt1.out) (rw2 (by exact Kd.C_below HRx1.out (hX HB.out)) HCx1.out) A33.out).mono ?_);rintro e wt2 ⟨rfl,hb⟩;replace BKz1:=aF BKz1 hb;replace BKx1:=aF BKx1 hb;replace BKt1:=aM (blk_below (g:=gbt1) (o:=.cells #[.int .i64 ((rd_T80 y105 x38_3).f0),.int .i64 ((rd_T80 y105 x38_3).f1.f0),.int .i64 ((rd_T80 y105 x38_3).f1.f1),.int .i64 ((rd_T80 y105 x38_3).f1.f2),.int .i64 ((rd_T80 y105 x38_3).f2),.int .i64 ((rd_T80 y105 x38_3).f3),.int .i64 ((rd_T80 y105 x38_3).f4),.int .i64 ((rd_T80 y105 x38_3).f5.f0),.slice At1 ((rd_T80 y105 x38_3).f5.f1).length ct1] 80 (0,0)) (bP BKt1.out) hb);replace HB:=aS HB hb;clear hb)
        go_ret
        exact⟨rE,(hX HB.out)⟩
       rw[if_pos rfl] at H
       have H':=aM H
       clear H
       go_wp2_with (go_at_call 61;(with_reducible refine(XaR.calls ((rd_T80 y105 x38_3).f0) ((rd_T80 y105 x38_3).f1.f0) ((rd_T80 y105 x38_3).f1.f1) ((rd_T80 y105 x38_3).f1.f2) ((rd_T80 y105 x38_3).f2) ((rd_T80 y105 x38_3).f3) ((rd_T80 y105 x38_3).f4) ((rd_T80 y105 x38_3).f5.f0) _ _ ((rd_T80 y105 x38_3).f5.f1) ((rd_T80 l0_4 x13_1).f0) ((rd_T80 l0_4 x13_1).f1.f0) ((rd_T80 l0_4 x13_1).f1.f1) ((rd_T80 l0_4 x13_1).f1.f2) ((rd_T80 l0_4 x13_1).f2) ((rd_T80 l0_4 x13_1).f3) ((rd_T80 l0_4 x13_1).f4) ((rd_T80 l0_4 x13_1).f5.f0) _ _ ((rd_T80 l0_4 x13_1).f5.f1) true _ (rw2 (by exact Kd.C_below HRt1.out (hX HB.out)) HCt1.out) (rw2 (by exact Kd.C_below HRx1.out (hX HB.out)) HCx1.out) A33.out).mono ?_);rintro e wt2 ⟨rfl,hb⟩;replace BKz1:=aF BKz1 hb;replace BKx1:=aF BKx1 hb;replace BKt1:=aM (blk_below (g:=gbt1) (o:=.cells #[.int .i64 ((rd_T80 y105 x38_3).f0),.int .i64 ((rd_T80 y105 x38_3).f1.f0),.int .i64 ((rd_T80 y105 x38_3).f1.f1),.int .i64 ((rd_T80 y105 x38_3).f1.f2),.int .i64 ((rd_T80 y105 x38_3).f2),.int .i64 ((rd_T80 y105 x38_3).f3),.int .i64 ((rd_T80 y105 x38_3).f4),.int .i64 ((rd_T80 y105 x38_3).f5.f0),.slice At1 ((rd_T80 y105 x38_3).f5.f1).length ct1] 80 (0,0)) (bP BKt1.out) hb);replace HB:=aS HB hb;clear hb)
       go_roundg k3
       case measure=>have:=HKy1.out;have:=HJw1.out;have:=HKu1.out;omega
       case rel=>exact⟨(wrap64 (x38_3+1)),rS,H',⟨by have:=HKy1.out;have:=HJw1.out;have:=HKu1.out;omega⟩,⟨(bX BKz1.out)⟩,⟨(bX BKx1.out)⟩,⟨(hX HB.out)⟩⟩
end Go.Proofs.YthejoblnfpaojaaGreat.P
