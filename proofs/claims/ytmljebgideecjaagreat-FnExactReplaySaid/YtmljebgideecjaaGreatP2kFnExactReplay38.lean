/- A part of the proof of the law FnExactReplay: texts of this seat, merged (words, printed functions of the program, plain lemmas). Conditions: none of its own. -/
import Derived.Test.YtmljebgideecjaaGreatP2kFnExactReplay35
set_option linter.unusedSimpArgs false
set_option linter.unusedVariables false
set_option maxHeartbeats 8000000
set_option maxRecDepth 100000
namespace Go.Proofs.YtmljebgideecjaaGreat.P2
open Go.Proofs.YtmljebgideecjaaGreatZ Go.RowKit Go.Proofs.YtmljebgideecjaaGreatW.PrintWords Go.Proofs.YtmljebgideecjaaGreatW.PrintLast Go.Proofs.YtmljebgideecjaaGreatW.PrintMore
attribute [local go_sem] max2_int min2_int max_two min_two max_three min_three max_four min_four   -- for this text's walks alone
def Xu.l0:Nat→Bool→Int→List (S140)→List (S162)→List (S97)→Int→List (S73)→List Int→List Int→Int→List Int→Int→Option (List Int × Int × Bool)
 | 0,_,_,_,_,_,_,_,_,_,_,_,_=>none
 | k+1,x5,x6,x102000,x102001,x102002,x102003,x102004,x102005,x102006,x102007,x109000,x109001=>if x6<(x102005.length:Int) then (if 0≤x6 then (if 0≤(rd x102005 x6) then (if (rd x102005 x6)<(x102004.length:Int) then (if x5=true then ((XV.f k x109000 x109001 ((rd_T73 x102004 (rd x102005 x6)).f1.f0) ((rd_T73 x102004 (rd x102005 x6)).f1.f1) ((rd_T73 x102004 (rd x102005 x6)).f1.f2) ((rd_T73 x102004 (rd x102005 x6)).f5.f0) ((rd_T73 x102004 (rd x102005 x6)).f5.f1)).bind fun t112=>((XA.f k x109000 x109001 ((rd_T73 x102004 (rd x102005 x6)).f1.f0) ((rd_T73 x102004 (rd x102005 x6)).f1.f1) ((rd_T73 x102004 (rd x102005 x6)).f1.f2) ((rd_T73 x102004 (rd x102005 x6)).f5.f0) ((rd_T73 x102004 (rd x102005 x6)).f5.f1)).bind fun bt113=>(Xu.l0 k t112 (wrap64 (x6+1)) x102000 x102001 x102002 x102003 x102004 x102005 x102006 x102007 bt113.1 bt113.2))) else ((XA.f k x109000 x109001 ((rd_T73 x102004 (rd x102005 x6)).f1.f0) ((rd_T73 x102004 (rd x102005 x6)).f1.f1) ((rd_T73 x102004 (rd x102005 x6)).f1.f2) ((rd_T73 x102004 (rd x102005 x6)).f5.f0) ((rd_T73 x102004 (rd x102005 x6)).f5.f1)).bind fun bt117=>(Xu.l0 k false (wrap64 (x6+1)) x102000 x102001 x102002 x102003 x102004 x102005 x102006 x102007 bt117.1 bt117.2))) else (none)) else (none)) else (none)) else (some (x109000,x109001,x5))
def Xu.f (k:Nat) (l0_0:List (S140)) (l0_1:List (S162)) (l0_2:List (S97)) (a0_3:Int) (l0_4:List (S73)) (l0_5:List Int) (l0_6:List Int) (a0_7:Int):Option (List Int × Int × Bool):=(Xh.f k l0_0 l0_1 l0_2 a0_3 l0_4 l0_5 l0_6 a0_7).bind fun t103=>(if t103=true then ((Xad.f l0_6 a0_7).bind fun bt104=>(Xu.l0 k true 0 l0_0 l0_1 l0_2 a0_3 l0_4 l0_5 l0_6 a0_7 bt104.1 bt104.2)) else (some (([]:List Int),0,false)))
def Xu.T8:Bool × List (List Nat × List Nat):=(true,[([],[]),([0],[0]),([],[]),([2],[2]),([],[]),([3,4],[3,4]),([5],[5]),([1,6],[1,6]),([7],[7]),([],[]),([9,8,0,1,2,3,4,5,6,7,8,9],[8,9])])
def Xu.B8:List Nat:=[0,1,0,4,0,28,60,127,255,0,1023]
theorem Xu.tab8:rtab .any (opsOf Tryz.f29 8)=Xu.T8:=by kernel_rfl
theorem Xu.bits8:waitsOk Xu.T8.2 Xu.B8=true:=by kernel_rfl
theorem Xu.calls (k:Nat) (A0_0:Option Addr) (c0_0:Nat) (l0_0:List (S140)) (A0_1:Option Addr) (c0_1:Nat) (l0_1:List (S162)) (A0_2:Option Addr) (c0_2:Nat) (l0_2:List (S97)) (a0_3:Int) (A0_4:Option Addr) (c0_4:Nat) (l0_4:List (S73)) (A0_5:Option Addr) (c0_5:Nat) (l0_5:List Int) (A0_6:Option Addr) (c0_6:Nat) (l0_6:List Int) (a0_7:Int) (r1:List Int) (r2:Int) (r3:Bool) (w:World) (h0_0:Rw k140 w A0_0 c0_0 l0_0) (h0_1:Rw k162 w A0_1 c0_1 l0_1) (h0_2:Rw k97 w A0_2 c0_2 l0_2) (h0_4:Rw k73 w A0_4 c0_4 l0_4) (h0_5:Rw (Kd.int .i64) w A0_5 c0_5 l0_5) (h0_6:Rw (Kd.int .i64) w A0_6 c0_6 l0_6) (h:Xu.f k l0_0 l0_1 l0_2 a0_3 l0_4 l0_5 l0_6 a0_7=some (r1,r2,r3)) :
  Calls Tryz.prog 29 #[.agg #[.slice A0_0 l0_0.length c0_0,.slice A0_1 l0_1.length c0_1,.slice A0_2 l0_2.length c0_2,.int .i64 a0_3,.slice A0_4 l0_4.length c0_4,.slice A0_5 l0_5.length c0_5,.slice A0_6 l0_6.length c0_6,.int .i64 a0_7]] w fun e w'=>∃ v0_:Value,e = .returned (.tuple #[.agg #[v0_,.int .i64 r2],.bool r3])∧Kd.R (Kd.int .i64) 3 w' w.heap.size (fun _=>True) v0_ r1∧Below w.heap.size w w':=by
 have hu43:=Tryz.underlying43
 have hu41:=Tryz.underlying41
 have hu73:=Tryz.underlying73
 have hu69:=Tryz.underlying69
 have hu71:=Tryz.underlying71
 obtain⟨HR0_0,HC0_0⟩:=h0_0
 obtain⟨HR0_1,HC0_1⟩:=h0_1
 obtain⟨HR0_2,HC0_2⟩:=h0_2
 obtain⟨HR0_4,HC0_4⟩:=h0_4
 obtain⟨HR0_5,HC0_5⟩:=h0_5
 obtain⟨HR0_6,HC0_6⟩:=h0_6
 have HB:=aM (Below.refl w.heap.size w)
 have H:=h
 unfold Xu.f at H
 clear h
 replace H:=bE H;obtain⟨t103,A2,H⟩:=H
 go_enter Tryz.func29,Tryz.ntmps29
 go_wp2_with (first | (refine boxE 1 #[.slice A0_0 l0_0.length c0_0,.slice A0_1 l0_1.length c0_1,.slice A0_2 l0_2.length c0_2,.int .i64 a0_3,.slice A0_4 l0_4.length c0_4,.slice A0_5 l0_5.length c0_5,.slice A0_6 l0_6.length c0_6,.int .i64 a0_7] 43 ?_;intro gbz1 hg wz1 hbox hb;have BKz1:=aM (hbox);have GWz1:=aG hg HB;replace HB:=aS HB hb;clear hb hbox hg) | (refine boxE 2 #[.slice none 0 0,.int .i64 0] 41 ?_;intro gbz2 hg wz2 hbox hb;have BKz2:=aM (hbox);have GWz2:=aG hg HB;have NBz1:=aL hg BKz1;have NBz2:=aR hg BKz1;replace BKz1:=aB BKz1 hb;replace HB:=aS HB hb;clear hb hbox hg;have hnbz1:=nB NBz1 NBz2;have hczz1:=cZ8 BKz1.out;refine Stop.out ?_))
 refine⟨?_⟩
 cases t103
 case false =>
  rw[if_neg nft] at H
  simp only[Option.some.injEq,Prod.mk.injEq] at H
  obtain⟨rfl,rfl,rfl⟩:=H
  go_wp2_with (refine gB 42 9 Tryz.func42 (Xh.calls _ _ _ _ _ _ _ _ _ _ _ _ _ _ _ _ _ _ _ _ _ _ _ (rW HR0_0 HB HC0_0) (rW HR0_1 HB HC0_1) (rW HR0_2 HB HC0_2) (rW HR0_4 HB HC0_4) (rW HR0_5 HB HC0_5) (rW HR0_6 HB HC0_6) A2.out) ?_;intro wz3 hb;replace BKz1:=aB BKz1 hb;replace BKz2:=aB BKz2 hb;replace HB:=aS HB hb;clear hb;have hczz9:=cZ2 BKz2.out)
  refine bodyPost_ret (results_ct rfl _ _ gbz2 41 #[.slice none 0 0,.int .i64 0] (0,0) _ rfl (bP BKz2.out) Tryz.underlying41 rfl (by kernel_rfl)) rfl ?_
  exact⟨(Value.slice none 0 0),rE,(by first | exact Kd.R_nil _ _ _ _ _ | exact Kd.S_nil _ _ _ _ _ | exact Kd.V_nil _ _ _ _ _ | exact Kd.N_nil _ _ _ _ _ | exact Kd.Q_nil _ _ _ _ _),(hX HB.out)⟩
 rw[if_pos rfl] at H
 replace H:=bE H;obtain⟨⟨t104,t107⟩,A4,H⟩:=H
 try dsimp only at H
 have H':=aM H
 clear H
 go_wp2_with (first | (refine gB 42 9 Tryz.func42 (Xh.calls _ _ _ _ _ _ _ _ _ _ _ _ _ _ _ _ _ _ _ _ _ _ _ (rW HR0_0 HB HC0_0) (rW HR0_1 HB HC0_1) (rW HR0_2 HB HC0_2) (rW HR0_4 HB HC0_4) (rW HR0_5 HB HC0_5) (rW HR0_6 HB HC0_6) A2.out) ?_;intro wz3 hb;replace BKz1:=aB BKz1 hb;replace BKz2:=aB BKz2 hb;replace HB:=aS HB hb;clear hb;have hczz9:=cZ8 BKz1.out) | (refine goesM 64 14 Tryz.func64 #[.agg #[.slice A0_6 l0_6.length c0_6,.int .i64 a0_7]] ?_;refine(Xad.calls _ _ _ _ _ _ _ (rW HR0_6 HB HC0_6) A4.out).mono ?_;rintro e wz4 ⟨vz1,rfl,hoz1,hb⟩;refine⟨_,rfl,?_⟩;have HOz1:=aM (Kd.R_lower hoz1 (below_size (hX HB.out)));replace BKz1:=aB BKz1 hb;replace BKz2:=aB BKz2 hb;replace HB:=aS HB hb;clear hb hoz1) | (refine boxE 4 #[.slice none 0 0,.int .i64 0] 41 ?_;intro gbz3 hg wz5 hbox hb;have BKz3:=aM (hbox);have GWz3:=aG hg HB;have NBz3:=aL hg BKz1;have NBz4:=aR hg BKz1;have NBz5:=aL hg BKz2;have NBz6:=aR hg BKz2;replace HOz1:=aQ HOz1 hb;replace BKz1:=aB BKz1 hb;replace BKz2:=aB BKz2 hb;replace HB:=aS HB hb;clear hb hbox hg;obtain⟨Aoz1,coz1,eoz1⟩:=Kd.R_slice HOz1.out;subst eoz1;have hnbz2:=nB NBz4 NBz3;have hnbz3:=nB NBz6 NBz5;have hczz17:=cZ2 BKz3.out))
 go_loopg [5,6] k (fun kq v5 v6 w'=>∃ (x5_1:Bool) (x6_1:Int) (x109000_1:List Int) (x109001_1:Int) (u109000:Value),v5 = .bool x5_1∧v6 = .int .i64 x6_1∧Aside0 (Xu.l0 kq x5_1 x6_1 l0_0 l0_1 l0_2 a0_3 l0_4 l0_5 l0_6 a0_7 x109000_1 x109001_1=some (r1,r2,r3))∧Aside0 (kq≤k)∧Aside0 (Kd.R (Kd.int .i64) 3 w' w.heap.size (fun _=>True) u109000 x109000_1)∧Aside0 (w'.heap[gbz1]? = some (.cells #[(.slice A0_0 l0_0.length c0_0),(.slice A0_1 l0_1.length c0_1),(.slice A0_2 l0_2.length c0_2),.int .i64 a0_3,(.slice A0_4 l0_4.length c0_4),(.slice A0_5 l0_5.length c0_5),(.slice A0_6 l0_6.length c0_6),.int .i64 a0_7] 43 (0,0)))∧Aside0 (w'.heap[gbz2]? = some (.cells #[(.slice none 0 0),.int .i64 0] 41 (0,0)))∧Aside0 (w'.heap[gbz3]? = some (.cells #[u109000,.int .i64 x109001_1] 41 (0,0)))∧Aside0 (Below w.heap.size w w'))
 case atStart=>exact⟨(true),(0),(t104),(t107),(.slice Aoz1 t104.length coz1),rS,rS,H',⟨Nat.le_refl _⟩,⟨(Kd.R_mono (rF HOz1.out BKz3.out) (fun _ hk=>trivial))⟩,⟨(bF BKz1.out)⟩,⟨(bF BKz2.out)⟩,⟨(bP BKz3.out)⟩,⟨(hX HB.out)⟩⟩
 case round =>
  clear H'
  try clear hczz9
  try clear hczz17
  try clear hczz1
  obtain⟨x5_1,x6_1,x109000_1,x109001_1,u109000,rfl,rfl,HA,HKy1,HO_y1,BKz1,BKz2,BKz3,HB⟩:=hrel
  cases gk with
  | zero=>exact absurd HA.out (by simp[Xu.l0])
  | succ k1 =>
   have H:=HA.out
   clear HA
   simp only[Xu.l0] at H
   revert H;refine iN ?_ ?_<;>intro c17b0 H
   ·simp only[Option.some.injEq,Prod.mk.injEq] at H
    obtain⟨rfl,rfl,rfl⟩:=H
    have hnbx1:=NBz1.out
    have hncx1:=NBz2.out
    have hnbx2:=NBz3.out
    have hncx2:=NBz4.out
    have hczx1:=cZ8 BKz1.out
    have hnbx3:=NBz6.out
    have hncx3:=NBz5.out
    have hczx9:=cZ2 BKz3.out
    obtain⟨Aox1,cox1,eox1⟩:=Kd.R_slice HO_y1.out
    subst eox1
    have hczx11:=cZ2 BKz2.out
    go_wp2
    refine bodyPost_ret (results_ct rfl _ _ gbz2 41 #[.slice Aox1 x109000_1.length cox1,.int .i64 x109001_1] (0,0) _ rfl (bP BKz2.out) Tryz.underlying41 rfl (by kernel_rfl)) rfl ?_
    exact⟨_,rE,(Kd.R_mono (rF HO_y1.out BKz2.out) (fun _ hk=>trivial)),(hX HB.out)⟩
   replace H:=ifQ H;obtain⟨c18b0,H⟩:=H
   replace H:=ifQ H;obtain⟨c19b0,H⟩:=H
   replace H:=ifQ H;obtain⟨c20b0,H⟩:=H
   cases x5_1
   case false =>
    rw[if_neg nft] at H
    replace H:=bE H;obtain⟨⟨t117,t120⟩,A51,H⟩:=H
    try dsimp only at H
    have H':=aM H
    clear H
    have hnbx1:=NBz1.out
    have hncx1:=NBz2.out
    have hnbx2:=NBz3.out
    have hncx2:=NBz4.out
    have hczx1:=cZ8 BKz1.out
    try go_wp2
    replace HO_y1:=aM (Kd.R_drew HO_y1.out)
    replace BKz1:=aM (blk_drew BKz1.out)
    replace BKz2:=aM (blk_drew BKz2.out)
    replace BKz3:=aM (blk_drew BKz3.out)
    replace HB:=aM (below_drew1 HB.out)
    have px1:0≤(x6_1:Int):=odA
    have qx1:x6_1<(l0_5.length:Int):=odA
    obtain⟨adx1,ex1,hxx1⟩:=Kd.at_int HR0_5.out x6_1 px1 qx1
    have hwx1:=hxx1
    cases ex1
    replace hxx1:=bc HB.out hxx1
    replace px1:=eq_true px1
    replace qx1:=eq_true qx1
    have px2:0≤((rd l0_5 x6_1):Int):=odA
    have qx2:(rd l0_5 x6_1)<(l0_4.length:Int):=odA
    obtain⟨adx2,Ax1,cx1,ex2,hxx2,hxx3,hxx4,hxx5,hxx6,hxx7,hxx8,hxx9,hxx10,hlx1,hix1⟩:=at_T73 HR0_4.out (rd l0_5 x6_1) px2 qx2
    have hwx2:=hxx10
    have hwx3:=hxx9
    have hwx4:=hxx8
    have hwx5:=hxx7
    have hwx6:=hxx6
    have hwx7:=hxx5
    have hwx8:=hxx4
    have hwx9:=hxx3
    have hwx10:=hxx2
    cases ex2
    replace hxx2:=bc HB.out hxx2
    replace hxx3:=bc HB.out hxx3
    replace hxx4:=bc HB.out hxx4
    replace hxx5:=bc HB.out hxx5
    replace hxx6:=bc HB.out hxx6
    replace hxx7:=bc HB.out hxx7
    replace hxx8:=bc HB.out hxx8
    replace hxx9:=bc HB.out hxx9
    replace hxx10:=bc HB.out hxx10
    have HRx1:=aM hix1
    have HCx1:=aM hlx1
    clear hix1 hlx1
    replace px2:=eq_true px2
    replace qx2:=eq_true qx2
    refine start_ (n:=11) (S:=fun w'=>w'.cell? ⟨gbz1,0,none⟩=some (.slice A0_0 l0_0.length c0_0)∧w'.cell? ⟨gbz1,1,none⟩=some (.slice A0_1 l0_1.length c0_1)∧w'.cell? ⟨gbz1,2,none⟩=some (.slice A0_2 l0_2.length c0_2)∧w'.cell? ⟨gbz1,3,none⟩=some (.int .i64 a0_3)∧w'.cell? ⟨gbz1,4,none⟩=some (.slice (some adx2) l0_4.length c0_4)∧w'.cell? ⟨gbz1,5,none⟩=some (.slice (some adx1) l0_5.length c0_5)∧w'.cell? ⟨gbz1,6,none⟩=some (.slice A0_6 l0_6.length c0_6)∧w'.cell? ⟨gbz1,7,none⟩=some (.int .i64 a0_7)∧w'.cell? (adx1.add (x6_1).toNat)=some (.int .i64 (rd l0_5 x6_1))∧w'.cell? (adx2.add (((rd l0_5 x6_1)).toNat * 9))=some (.int .i64 ((rd_T73 l0_4 (rd l0_5 x6_1)).f0))∧w'.cell? ⟨(adx2.add (((rd l0_5 x6_1)).toNat * 9)).block,(adx2.add (((rd l0_5 x6_1)).toNat * 9)).off+1,none⟩=some (.int .i64 ((rd_T73 l0_4 (rd l0_5 x6_1)).f1.f0))∧w'.cell? ⟨(adx2.add (((rd l0_5 x6_1)).toNat * 9)).block,(adx2.add (((rd l0_5 x6_1)).toNat * 9)).off+2,none⟩=some (.int .i64 ((rd_T73 l0_4 (rd l0_5 x6_1)).f1.f1))∧w'.cell? ⟨(adx2.add (((rd l0_5 x6_1)).toNat * 9)).block,(adx2.add (((rd l0_5 x6_1)).toNat * 9)).off+3,none⟩=some (.int .i64 ((rd_T73 l0_4 (rd l0_5 x6_1)).f1.f2))∧w'.cell? ⟨(adx2.add (((rd l0_5 x6_1)).toNat * 9)).block,(adx2.add (((rd l0_5 x6_1)).toNat * 9)).off+4,none⟩=some (.int .i64 ((rd_T73 l0_4 (rd l0_5 x6_1)).f2))∧w'.cell? ⟨(adx2.add (((rd l0_5 x6_1)).toNat * 9)).block,(adx2.add (((rd l0_5 x6_1)).toNat * 9)).off+5,none⟩=some (.int .i64 ((rd_T73 l0_4 (rd l0_5 x6_1)).f3))∧w'.cell? ⟨(adx2.add (((rd l0_5 x6_1)).toNat * 9)).block,(adx2.add (((rd l0_5 x6_1)).toNat * 9)).off+6,none⟩=some (.int .i64 ((rd_T73 l0_4 (rd l0_5 x6_1)).f4))∧w'.cell? ⟨(adx2.add (((rd l0_5 x6_1)).toNat * 9)).block,(adx2.add (((rd l0_5 x6_1)).toNat * 9)).off+7,none⟩=some (.int .i64 ((rd_T73 l0_4 (rd l0_5 x6_1)).f5.f0))∧w'.cell? ⟨(adx2.add (((rd l0_5 x6_1)).toNat * 9)).block,(adx2.add (((rd l0_5 x6_1)).toNat * 9)).off+8,none⟩=some (.slice Ax1 ((rd_T73 l0_4 (rd l0_5 x6_1)).f5.f1).length cx1)) (ds:=[]) (bm 11 0) (by kernel_rfl) rfl (by kernel_rfl) ⟨cK BKz1.out 0,cK BKz1.out 1,cK BKz1.out 2,cK BKz1.out 3,cK BKz1.out 4,cK BKz1.out 5,cK BKz1.out 6,cK BKz1.out 7,(bc HB.out hwx1 :),(bc HB.out hwx10 :),(bc HB.out hwx9 :),(bc HB.out hwx8 :),(bc HB.out hwx7 :),(bc HB.out hwx6 :),(bc HB.out hwx5 :),(bc HB.out hwx4 :),(bc HB.out hwx3 :),(bc HB.out hwx2 :)⟩ (fun hHeld => ?_);refine with_tabW Xu.tab8 Xu.bits8 (fun HT_ HW_ => ?_)
    generalize wr.drew=wx1 at HO_y1 BKz1 BKz2 BKz3 HB HRx1 hxx1 hxx2 hxx3 hxx4 hxx5 hxx6 hxx7 hxx8 hxx9 hxx10 hHeld ⊢
    refine pZ 0 22 (bm 11 1) HT_.out ?_
    refine pZ 2 24 (bm 11 5) HT_.out ?_
    refine pZ 4 26 (bm 11 21) HT_.out ?_
    refine tZ 1 23 (bm 11 23) HT_.out HW_.out hHeld ?_
    refine tZ 3 25 (bm 11 31) HT_.out HW_.out hHeld ?_
    refine pZ 5 27 (bm 11 63) HT_.out ?_
    refine tZ 6 28 (bm 11 127) HT_.out HW_.out hHeld ?_
    refine pZ 7 29 (bm 11 255) HT_.out ?_
    refine tZ 8 30 (bm 11 511) HT_.out HW_.out hHeld ?_
    refine oZ 9 (some 7) (bm 11 1023) HT_.out (fun K hK => ?_)
    refine box_step ?hg (N:=7) ?hd (cs:=#[.int .i64 0,.int .i64 0,.int .i64 0,.int .i64 0,.int .i64 0,.int .i64 0,.int .i64 0,.int .i64 0,.slice none 0 0]) (t:=73) ?hr ?_;(case hd=>rfl);(case hg=>rfl);(case hr=>first | (go_simp;done) | (go_simp;rfl))
    intro gbx1 hg wx2 hbox hb
    have BKx1:=aM (hbox)
    have GWx1:=aG hg HB
    have GEx1:=aG hg HB
    have NBx1:=aL hg BKz1
    have NBx2:=aR hg BKz1
    have NBx3:=aL hg BKz2
    have NBx4:=aR hg BKz2
    have NBx5:=aL hg BKz3
    have NBx6:=aR hg BKz3
    replace HO_y1:=aQ HO_y1 hb
    replace BKz1:=aB BKz1 hb
    replace BKz2:=aB BKz2 hb
    replace BKz3:=aB BKz3 hb
    replace HB:=aS HB hb
    clear hb hbox hg
    refine hK.out _ _ ⟨cK BKz1.out 0,cK BKz1.out 1,cK BKz1.out 2,cK BKz1.out 3,cK BKz1.out 4,cK BKz1.out 5,cK BKz1.out 6,cK BKz1.out 7,(bc HB.out hwx1 :),(bc HB.out hwx10 :),(bc HB.out hwx9 :),(bc HB.out hwx8 :),(bc HB.out hwx7 :),(bc HB.out hwx6 :),(bc HB.out hwx5 :),(bc HB.out hwx4 :),(bc HB.out hwx3 :),(bc HB.out hwx2 :)⟩ (fun hHeld => ?_)
    clear hK K
    refine nZ 7 ?_
    refine oZ 10 none (bm 11 2047) HT_.out (fun K hK => ?_)
    have hsx1:wx2.cell? ⟨gbx1,0,none⟩=some (.int .i64 0):=(blk_cell BKx1.out 0).trans rfl
    have hfsx1:=blk_frozen BKx1.out 0
    have hnsx1:=NBx1.out
    have hnsx2:=NBx3.out
    have hnsx3:=NBx5.out
    have hmsx1:=NBx2.out
    have hmsx2:=NBx4.out
    have hmsx3:=NBx6.out
    have hsx2:wx2.cell? ⟨gbx1,1,none⟩=some (.int .i64 0):=(blk_cell BKx1.out 1).trans rfl
    have hfsx2:=blk_frozen BKx1.out 1
    have hnsx4:=NBx1.out
    have hnsx5:=NBx3.out
    have hnsx6:=NBx5.out
    have hmsx4:=NBx2.out
    have hmsx5:=NBx4.out
    have hmsx6:=NBx6.out
    have hsx3:wx2.cell? ⟨gbx1,2,none⟩=some (.int .i64 0):=(blk_cell BKx1.out 2).trans rfl
    have hfsx3:=blk_frozen BKx1.out 2
    have hnsx7:=NBx1.out
    have hnsx8:=NBx3.out
    have hnsx9:=NBx5.out
    have hmsx7:=NBx2.out
    have hmsx8:=NBx4.out
    have hmsx9:=NBx6.out
    have hsx4:wx2.cell? ⟨gbx1,3,none⟩=some (.int .i64 0):=(blk_cell BKx1.out 3).trans rfl
    have hfsx4:=blk_frozen BKx1.out 3
    have hnsx10:=NBx1.out
    have hnsx11:=NBx3.out
    have hnsx12:=NBx5.out
    have hmsx10:=NBx2.out
    have hmsx11:=NBx4.out
    have hmsx12:=NBx6.out
    have hsx5:wx2.cell? ⟨gbx1,4,none⟩=some (.int .i64 0):=(blk_cell BKx1.out 4).trans rfl
    have hfsx5:=blk_frozen BKx1.out 4
    have hnsx13:=NBx1.out
    have hnsx14:=NBx3.out
    have hnsx15:=NBx5.out
    have hmsx13:=NBx2.out
    have hmsx14:=NBx4.out
    have hmsx15:=NBx6.out
    have hsx6:wx2.cell? ⟨gbx1,5,none⟩=some (.int .i64 0):=(blk_cell BKx1.out 5).trans rfl
    have hfsx6:=blk_frozen BKx1.out 5
    have hnsx16:=NBx1.out
    have hnsx17:=NBx3.out
    have hnsx18:=NBx5.out
    have hmsx16:=NBx2.out
    have hmsx17:=NBx4.out
    have hmsx18:=NBx6.out
    have hsx7:wx2.cell? ⟨gbx1,6,none⟩=some (.int .i64 0):=(blk_cell BKx1.out 6).trans rfl
    have hfsx7:=blk_frozen BKx1.out 6
    have hnsx19:=NBx1.out
    have hnsx20:=NBx3.out
    have hnsx21:=NBx5.out
    have hmsx19:=NBx2.out
    have hmsx20:=NBx4.out
    have hmsx21:=NBx6.out
    have hsx8:wx2.cell? ⟨gbx1,7,none⟩=some (.int .i64 0):=(blk_cell BKx1.out 7).trans rfl
    have hfsx8:=blk_frozen BKx1.out 7
    have hnsx22:=NBx1.out
    have hnsx23:=NBx3.out
    have hnsx24:=NBx5.out
    have hmsx22:=NBx2.out
    have hmsx23:=NBx4.out
    have hmsx24:=NBx6.out
    have hsx9:wx2.cell? ⟨gbx1,8,none⟩=some (.slice none 0 0):=(blk_cell BKx1.out 8).trans rfl
    have hfsx9:=blk_frozen BKx1.out 8
    have hnsx25:=NBx1.out
    have hnsx26:=NBx3.out
    have hnsx27:=NBx5.out
    have hmsx25:=NBx2.out
    have hmsx26:=NBx4.out
    have hmsx27:=NBx6.out
    refine skip_ (w1:=?_) (by rfl) rfl ?_ ?_
    rotate_left
    ·go_simp
     rfl
    refine hK.out _ _ ⟨(fA NBx1.out hHeld.1),(fA NBx1.out hHeld.2.1),(fA NBx1.out hHeld.2.2.1),(fA NBx1.out hHeld.2.2.2.1),(fA NBx1.out hHeld.2.2.2.2.1),(fA NBx1.out hHeld.2.2.2.2.2.1),(fA NBx1.out hHeld.2.2.2.2.2.2.1),(fA NBx1.out hHeld.2.2.2.2.2.2.2.1),(fB hwx1 GWx1.out hHeld.2.2.2.2.2.2.2.2.1),(fB hwx10 GWx1.out hHeld.2.2.2.2.2.2.2.2.2.1),(fB hwx9 GWx1.out hHeld.2.2.2.2.2.2.2.2.2.2.1),(fB hwx8 GWx1.out hHeld.2.2.2.2.2.2.2.2.2.2.2.1),(fB hwx7 GWx1.out hHeld.2.2.2.2.2.2.2.2.2.2.2.2.1),(fB hwx6 GWx1.out hHeld.2.2.2.2.2.2.2.2.2.2.2.2.2.1),(fB hwx5 GWx1.out hHeld.2.2.2.2.2.2.2.2.2.2.2.2.2.2.1),(fB hwx4 GWx1.out hHeld.2.2.2.2.2.2.2.2.2.2.2.2.2.2.2.1),(fB hwx3 GWx1.out hHeld.2.2.2.2.2.2.2.2.2.2.2.2.2.2.2.2.1),(fB hwx2 GWx1.out hHeld.2.2.2.2.2.2.2.2.2.2.2.2.2.2.2.2.2)⟩ (fun hHeld => ?_)
    clear hK K
    refine done_ (done_of HT_.out (by kernel_rfl)) ?_
    have hnbx3:=NBz6.out
    have hncx3:=NBz5.out
    have hnbx4:=NBx5.out
    have hncx4:=NBx6.out
    have hczx9:=cZ2 BKz3.out
    have hnbx5:=NBx2.out
    have hncx5:=NBx1.out
    have hnbx6:=NBx4.out
    have hncx6:=NBx3.out
    have hczx11:=cZ9 BKx1.out
    obtain⟨Aox1,cox1,eox1⟩:=Kd.R_slice HO_y1.out
    subst eox1
    try go_wp2_with (refine goesM 81 45 Tryz.func81 #[.agg #[.slice Aox1 x109000_1.length cox1,.int .i64 x109001_1],.agg #[.int .i64 ((rd_T73 l0_4 (rd l0_5 x6_1)).f1.f0),.int .i64 ((rd_T73 l0_4 (rd l0_5 x6_1)).f1.f1),.int .i64 ((rd_T73 l0_4 (rd l0_5 x6_1)).f1.f2)],.agg #[.int .i64 ((rd_T73 l0_4 (rd l0_5 x6_1)).f5.f0),.slice Ax1 ((rd_T73 l0_4 (rd l0_5 x6_1)).f5.f1).length cx1]] ?_;refine(XA.calls k1 _ _ x109000_1 x109001_1 ((rd_T73 l0_4 (rd l0_5 x6_1)).f1.f0) ((rd_T73 l0_4 (rd l0_5 x6_1)).f1.f1) ((rd_T73 l0_4 (rd l0_5 x6_1)).f1.f2) ((rd_T73 l0_4 (rd l0_5 x6_1)).f5.f0) _ _ ((rd_T73 l0_4 (rd l0_5 x6_1)).f5.f1) t117 t120 _ (rw2 (rR HO_y1.out BKx1.out) ((Kd.R_reads' HO_y1.out).2.1)) (rw2 (by exact Kd.C_below HRx1.out (hX HB.out)) HCx1.out) A51.out).mono ?_;rintro e wx3 ⟨vx1,rfl,hoz1,hb⟩;refine⟨_,rfl,?_⟩;have HOx1:=aM (Kd.R_lower (Kd.R_new' hoz1 (Kd.R_lt (rF HO_y1.out BKx1.out))) (below_size (hX HB.out)));replace HO_y1:=aM (Kd.R_elder' (rF HO_y1.out BKx1.out) (Kd.R_base hoz1) hb);replace BKz1:=aF BKz1 hb;replace BKz2:=aF BKz2 hb;replace BKz3:=aF BKz3 hb;replace BKx1:=aM (blk_below (g:=gbx1) (o:=.cells #[.int .i64 ((rd_T73 l0_4 (rd l0_5 x6_1)).f0),.int .i64 ((rd_T73 l0_4 (rd l0_5 x6_1)).f1.f0),.int .i64 ((rd_T73 l0_4 (rd l0_5 x6_1)).f1.f1),.int .i64 ((rd_T73 l0_4 (rd l0_5 x6_1)).f1.f2),.int .i64 ((rd_T73 l0_4 (rd l0_5 x6_1)).f2),.int .i64 ((rd_T73 l0_4 (rd l0_5 x6_1)).f3),.int .i64 ((rd_T73 l0_4 (rd l0_5 x6_1)).f4),.int .i64 ((rd_T73 l0_4 (rd l0_5 x6_1)).f5.f0),.slice Ax1 ((rd_T73 l0_4 (rd l0_5 x6_1)).f5.f1).length cx1] 73 (0,0)) (bP BKx1.out) hb);replace HB:=aS HB hb;clear hb hoz1;obtain⟨Aox2,cox2,eox2⟩:=Kd.R_slice HOx1.out;subst eox2;have hczx20:=cZ2 BKz3.out)
    go_roundg k1
    case measure=>have:=HKy1.out;omega
    case rel=>exact⟨(false),(wrap64 (x6_1+1)),(t117),(t120),(.slice Aox2 t117.length cox2),rS,rS,H',⟨by have:=HKy1.out;omega⟩,⟨(Kd.R_mono (rF HOx1.out BKz3.out) (fun _ hk=>trivial))⟩,⟨(bF BKz1.out)⟩,⟨(bF BKz2.out)⟩,⟨(bP BKz3.out)⟩,⟨(hX HB.out)⟩⟩
   rw[if_pos rfl] at H
   replace H:=bE H;obtain⟨t112,A22,H⟩:=H
   replace H:=bE H;obtain⟨⟨t113,t116⟩,A23,H⟩:=H
   try dsimp only at H
   have H':=aM H
   clear H
   have hnbx1:=NBz1.out
   have hncx1:=NBz2.out
   have hnbx2:=NBz3.out
   have hncx2:=NBz4.out
   have hczx1:=cZ8 BKz1.out
   try go_wp2
   replace HO_y1:=aM (Kd.R_drew HO_y1.out)
   replace BKz1:=aM (blk_drew BKz1.out)
   replace BKz2:=aM (blk_drew BKz2.out)
   replace BKz3:=aM (blk_drew BKz3.out)
   replace HB:=aM (below_drew1 HB.out)
   have px1:0≤(x6_1:Int):=odA
   have qx1:x6_1<(l0_5.length:Int):=odA
   obtain⟨adx1,ex1,hxx1⟩:=Kd.at_int HR0_5.out x6_1 px1 qx1
   have hwx1:=hxx1
   cases ex1
   replace hxx1:=bc HB.out hxx1
   replace px1:=eq_true px1
   replace qx1:=eq_true qx1
   have px2:0≤((rd l0_5 x6_1):Int):=odA
   have qx2:(rd l0_5 x6_1)<(l0_4.length:Int):=odA
   obtain⟨adx2,Ax1,cx1,ex2,hxx2,hxx3,hxx4,hxx5,hxx6,hxx7,hxx8,hxx9,hxx10,hlx1,hix1⟩:=at_T73 HR0_4.out (rd l0_5 x6_1) px2 qx2
   have hwx2:=hxx10
   have hwx3:=hxx9
   have hwx4:=hxx8
   have hwx5:=hxx7
   have hwx6:=hxx6
   have hwx7:=hxx5
   have hwx8:=hxx4
   have hwx9:=hxx3
   have hwx10:=hxx2
   cases ex2
   replace hxx2:=bc HB.out hxx2
   replace hxx3:=bc HB.out hxx3
   replace hxx4:=bc HB.out hxx4
   replace hxx5:=bc HB.out hxx5
   replace hxx6:=bc HB.out hxx6
   replace hxx7:=bc HB.out hxx7
   replace hxx8:=bc HB.out hxx8
   replace hxx9:=bc HB.out hxx9
   replace hxx10:=bc HB.out hxx10
   have HRx1:=aM hix1
   have HCx1:=aM hlx1
   clear hix1 hlx1
   replace px2:=eq_true px2
   replace qx2:=eq_true qx2
   refine start_ (n:=11) (S:=fun w'=>w'.cell? ⟨gbz1,0,none⟩=some (.slice A0_0 l0_0.length c0_0)∧w'.cell? ⟨gbz1,1,none⟩=some (.slice A0_1 l0_1.length c0_1)∧w'.cell? ⟨gbz1,2,none⟩=some (.slice A0_2 l0_2.length c0_2)∧w'.cell? ⟨gbz1,3,none⟩=some (.int .i64 a0_3)∧w'.cell? ⟨gbz1,4,none⟩=some (.slice (some adx2) l0_4.length c0_4)∧w'.cell? ⟨gbz1,5,none⟩=some (.slice (some adx1) l0_5.length c0_5)∧w'.cell? ⟨gbz1,6,none⟩=some (.slice A0_6 l0_6.length c0_6)∧w'.cell? ⟨gbz1,7,none⟩=some (.int .i64 a0_7)∧w'.cell? (adx1.add (x6_1).toNat)=some (.int .i64 (rd l0_5 x6_1))∧w'.cell? (adx2.add (((rd l0_5 x6_1)).toNat * 9))=some (.int .i64 ((rd_T73 l0_4 (rd l0_5 x6_1)).f0))∧w'.cell? ⟨(adx2.add (((rd l0_5 x6_1)).toNat * 9)).block,(adx2.add (((rd l0_5 x6_1)).toNat * 9)).off+1,none⟩=some (.int .i64 ((rd_T73 l0_4 (rd l0_5 x6_1)).f1.f0))∧w'.cell? ⟨(adx2.add (((rd l0_5 x6_1)).toNat * 9)).block,(adx2.add (((rd l0_5 x6_1)).toNat * 9)).off+2,none⟩=some (.int .i64 ((rd_T73 l0_4 (rd l0_5 x6_1)).f1.f1))∧w'.cell? ⟨(adx2.add (((rd l0_5 x6_1)).toNat * 9)).block,(adx2.add (((rd l0_5 x6_1)).toNat * 9)).off+3,none⟩=some (.int .i64 ((rd_T73 l0_4 (rd l0_5 x6_1)).f1.f2))∧w'.cell? ⟨(adx2.add (((rd l0_5 x6_1)).toNat * 9)).block,(adx2.add (((rd l0_5 x6_1)).toNat * 9)).off+4,none⟩=some (.int .i64 ((rd_T73 l0_4 (rd l0_5 x6_1)).f2))∧w'.cell? ⟨(adx2.add (((rd l0_5 x6_1)).toNat * 9)).block,(adx2.add (((rd l0_5 x6_1)).toNat * 9)).off+5,none⟩=some (.int .i64 ((rd_T73 l0_4 (rd l0_5 x6_1)).f3))∧w'.cell? ⟨(adx2.add (((rd l0_5 x6_1)).toNat * 9)).block,(adx2.add (((rd l0_5 x6_1)).toNat * 9)).off+6,none⟩=some (.int .i64 ((rd_T73 l0_4 (rd l0_5 x6_1)).f4))∧w'.cell? ⟨(adx2.add (((rd l0_5 x6_1)).toNat * 9)).block,(adx2.add (((rd l0_5 x6_1)).toNat * 9)).off+7,none⟩=some (.int .i64 ((rd_T73 l0_4 (rd l0_5 x6_1)).f5.f0))∧w'.cell? ⟨(adx2.add (((rd l0_5 x6_1)).toNat * 9)).block,(adx2.add (((rd l0_5 x6_1)).toNat * 9)).off+8,none⟩=some (.slice Ax1 ((rd_T73 l0_4 (rd l0_5 x6_1)).f5.f1).length cx1)) (ds:=[]) (bm 11 0) (by kernel_rfl) rfl (by kernel_rfl) ⟨cK BKz1.out 0,cK BKz1.out 1,cK BKz1.out 2,cK BKz1.out 3,cK BKz1.out 4,cK BKz1.out 5,cK BKz1.out 6,cK BKz1.out 7,(bc HB.out hwx1 :),(bc HB.out hwx10 :),(bc HB.out hwx9 :),(bc HB.out hwx8 :),(bc HB.out hwx7 :),(bc HB.out hwx6 :),(bc HB.out hwx5 :),(bc HB.out hwx4 :),(bc HB.out hwx3 :),(bc HB.out hwx2 :)⟩ (fun hHeld => ?_);refine with_tabW Xu.tab8 Xu.bits8 (fun HT_ HW_ => ?_)
   generalize wr.drew=wx1 at HO_y1 BKz1 BKz2 BKz3 HB HRx1 hxx1 hxx2 hxx3 hxx4 hxx5 hxx6 hxx7 hxx8 hxx9 hxx10 hHeld ⊢
   refine pZ 0 22 (bm 11 1) HT_.out ?_
   refine pZ 2 24 (bm 11 5) HT_.out ?_
   refine pZ 4 26 (bm 11 21) HT_.out ?_
   refine tZ 1 23 (bm 11 23) HT_.out HW_.out hHeld ?_
   refine tZ 3 25 (bm 11 31) HT_.out HW_.out hHeld ?_
   refine pZ 5 27 (bm 11 63) HT_.out ?_
   refine tZ 6 28 (bm 11 127) HT_.out HW_.out hHeld ?_
   refine pZ 7 29 (bm 11 255) HT_.out ?_
   refine tZ 8 30 (bm 11 511) HT_.out HW_.out hHeld ?_
   refine oZ 9 (some 7) (bm 11 1023) HT_.out (fun K hK => ?_)
   refine box_step ?hg (N:=7) ?hd (cs:=#[.int .i64 0,.int .i64 0,.int .i64 0,.int .i64 0,.int .i64 0,.int .i64 0,.int .i64 0,.int .i64 0,.slice none 0 0]) (t:=73) ?hr ?_;(case hd=>rfl);(case hg=>rfl);(case hr=>first | (go_simp;done) | (go_simp;rfl))
   intro gbx1 hg wx2 hbox hb
   have BKx1:=aM (hbox)
   have GWx1:=aG hg HB
   have GEx1:=aG hg HB
   have NBx1:=aL hg BKz1
   have NBx2:=aR hg BKz1
   have NBx3:=aL hg BKz2
   have NBx4:=aR hg BKz2
   have NBx5:=aL hg BKz3
   have NBx6:=aR hg BKz3
   replace HO_y1:=aQ HO_y1 hb
   replace BKz1:=aB BKz1 hb
   replace BKz2:=aB BKz2 hb
   replace BKz3:=aB BKz3 hb
   replace HB:=aS HB hb
   clear hb hbox hg
   refine hK.out _ _ ⟨cK BKz1.out 0,cK BKz1.out 1,cK BKz1.out 2,cK BKz1.out 3,cK BKz1.out 4,cK BKz1.out 5,cK BKz1.out 6,cK BKz1.out 7,(bc HB.out hwx1 :),(bc HB.out hwx10 :),(bc HB.out hwx9 :),(bc HB.out hwx8 :),(bc HB.out hwx7 :),(bc HB.out hwx6 :),(bc HB.out hwx5 :),(bc HB.out hwx4 :),(bc HB.out hwx3 :),(bc HB.out hwx2 :)⟩ (fun hHeld => ?_)
   clear hK K
   refine nZ 7 ?_
   refine oZ 10 none (bm 11 2047) HT_.out (fun K hK => ?_)
   have hsx1:wx2.cell? ⟨gbx1,0,none⟩=some (.int .i64 0):=(blk_cell BKx1.out 0).trans rfl
   have hfsx1:=blk_frozen BKx1.out 0
   have hnsx1:=NBx1.out
   have hnsx2:=NBx3.out
   have hnsx3:=NBx5.out
   have hmsx1:=NBx2.out
   have hmsx2:=NBx4.out
   have hmsx3:=NBx6.out
   have hsx2:wx2.cell? ⟨gbx1,1,none⟩=some (.int .i64 0):=(blk_cell BKx1.out 1).trans rfl
   have hfsx2:=blk_frozen BKx1.out 1
   have hnsx4:=NBx1.out
   have hnsx5:=NBx3.out
   have hnsx6:=NBx5.out
   have hmsx4:=NBx2.out
   have hmsx5:=NBx4.out
   have hmsx6:=NBx6.out
   have hsx3:wx2.cell? ⟨gbx1,2,none⟩=some (.int .i64 0):=(blk_cell BKx1.out 2).trans rfl
   have hfsx3:=blk_frozen BKx1.out 2
   have hnsx7:=NBx1.out
   have hnsx8:=NBx3.out
   have hnsx9:=NBx5.out
   have hmsx7:=NBx2.out
   have hmsx8:=NBx4.out
   have hmsx9:=NBx6.out
   have hsx4:wx2.cell? ⟨gbx1,3,none⟩=some (.int .i64 0):=(blk_cell BKx1.out 3).trans rfl
   have hfsx4:=blk_frozen BKx1.out 3
   have hnsx10:=NBx1.out
   have hnsx11:=NBx3.out
   have hnsx12:=NBx5.out
   have hmsx10:=NBx2.out
   have hmsx11:=NBx4.out
   have hmsx12:=NBx6.out
   have hsx5:wx2.cell? ⟨gbx1,4,none⟩=some (.int .i64 0):=(blk_cell BKx1.out 4).trans rfl
   have hfsx5:=blk_frozen BKx1.out 4
   have hnsx13:=NBx1.out
   have hnsx14:=NBx3.out
   have hnsx15:=NBx5.out
   have hmsx13:=NBx2.out
   have hmsx14:=NBx4.out
   have hmsx15:=NBx6.out
   have hsx6:wx2.cell? ⟨gbx1,5,none⟩=some (.int .i64 0):=(blk_cell BKx1.out 5).trans rfl
   have hfsx6:=blk_frozen BKx1.out 5
   have hnsx16:=NBx1.out
   have hnsx17:=NBx3.out
   have hnsx18:=NBx5.out
   have hmsx16:=NBx2.out
   have hmsx17:=NBx4.out
   have hmsx18:=NBx6.out
   have hsx7:wx2.cell? ⟨gbx1,6,none⟩=some (.int .i64 0):=(blk_cell BKx1.out 6).trans rfl
   have hfsx7:=blk_frozen BKx1.out 6
   have hnsx19:=NBx1.out
   have hnsx20:=NBx3.out
   have hnsx21:=NBx5.out
   have hmsx19:=NBx2.out
   have hmsx20:=NBx4.out
   have hmsx21:=NBx6.out
   have hsx8:wx2.cell? ⟨gbx1,7,none⟩=some (.int .i64 0):=(blk_cell BKx1.out 7).trans rfl
   have hfsx8:=blk_frozen BKx1.out 7
   have hnsx22:=NBx1.out
   have hnsx23:=NBx3.out
   have hnsx24:=NBx5.out
   have hmsx22:=NBx2.out
   have hmsx23:=NBx4.out
   have hmsx24:=NBx6.out
   have hsx9:wx2.cell? ⟨gbx1,8,none⟩=some (.slice none 0 0):=(blk_cell BKx1.out 8).trans rfl
   have hfsx9:=blk_frozen BKx1.out 8
   have hnsx25:=NBx1.out
   have hnsx26:=NBx3.out
   have hnsx27:=NBx5.out
   have hmsx25:=NBx2.out
   have hmsx26:=NBx4.out
   have hmsx27:=NBx6.out
   refine skip_ (w1:=?_) (by rfl) rfl ?_ ?_
   rotate_left
   ·go_simp
    rfl
   refine hK.out _ _ ⟨(fA NBx1.out hHeld.1),(fA NBx1.out hHeld.2.1),(fA NBx1.out hHeld.2.2.1),(fA NBx1.out hHeld.2.2.2.1),(fA NBx1.out hHeld.2.2.2.2.1),(fA NBx1.out hHeld.2.2.2.2.2.1),(fA NBx1.out hHeld.2.2.2.2.2.2.1),(fA NBx1.out hHeld.2.2.2.2.2.2.2.1),(fB hwx1 GWx1.out hHeld.2.2.2.2.2.2.2.2.1),(fB hwx10 GWx1.out hHeld.2.2.2.2.2.2.2.2.2.1),(fB hwx9 GWx1.out hHeld.2.2.2.2.2.2.2.2.2.2.1),(fB hwx8 GWx1.out hHeld.2.2.2.2.2.2.2.2.2.2.2.1),(fB hwx7 GWx1.out hHeld.2.2.2.2.2.2.2.2.2.2.2.2.1),(fB hwx6 GWx1.out hHeld.2.2.2.2.2.2.2.2.2.2.2.2.2.1),(fB hwx5 GWx1.out hHeld.2.2.2.2.2.2.2.2.2.2.2.2.2.2.1),(fB hwx4 GWx1.out hHeld.2.2.2.2.2.2.2.2.2.2.2.2.2.2.2.1),(fB hwx3 GWx1.out hHeld.2.2.2.2.2.2.2.2.2.2.2.2.2.2.2.2.1),(fB hwx2 GWx1.out hHeld.2.2.2.2.2.2.2.2.2.2.2.2.2.2.2.2.2)⟩ (fun hHeld => ?_)
   clear hK K
   refine done_ (done_of HT_.out (by kernel_rfl)) ?_
   have hnbx3:=NBz6.out
   have hncx3:=NBz5.out
   have hnbx4:=NBx5.out
   have hncx4:=NBx6.out
   have hczx9:=cZ2 BKz3.out
   have hnbx5:=NBx2.out
   have hncx5:=NBx1.out
   have hnbx6:=NBx4.out
   have hncx6:=NBx3.out
   have hczx11:=cZ9 BKx1.out
   obtain⟨Aox1,cox1,eox1⟩:=Kd.R_slice HO_y1.out
   subst eox1
   try go_wp2_with (first | (go_at_call 80;(with_reducible refine(XV.calls k1 _ _ x109000_1 x109001_1 ((rd_T73 l0_4 (rd l0_5 x6_1)).f1.f0) ((rd_T73 l0_4 (rd l0_5 x6_1)).f1.f1) ((rd_T73 l0_4 (rd l0_5 x6_1)).f1.f2) ((rd_T73 l0_4 (rd l0_5 x6_1)).f5.f0) _ _ ((rd_T73 l0_4 (rd l0_5 x6_1)).f5.f1) t112 _ (rw2 (rR HO_y1.out BKx1.out) ((Kd.R_reads' HO_y1.out).2.1)) (rw2 (by exact Kd.C_below HRx1.out (hX HB.out)) HCx1.out) A22.out).mono ?_);rintro e wx3 ⟨rfl,hb⟩;replace HO_y1:=aM (Kd.R_below (rF HO_y1.out BKx1.out) hb);replace BKz1:=aF BKz1 hb;replace BKz2:=aF BKz2 hb;replace BKz3:=aF BKz3 hb;replace BKx1:=aM (blk_below (g:=gbx1) (o:=.cells #[.int .i64 ((rd_T73 l0_4 (rd l0_5 x6_1)).f0),.int .i64 ((rd_T73 l0_4 (rd l0_5 x6_1)).f1.f0),.int .i64 ((rd_T73 l0_4 (rd l0_5 x6_1)).f1.f1),.int .i64 ((rd_T73 l0_4 (rd l0_5 x6_1)).f1.f2),.int .i64 ((rd_T73 l0_4 (rd l0_5 x6_1)).f2),.int .i64 ((rd_T73 l0_4 (rd l0_5 x6_1)).f3),.int .i64 ((rd_T73 l0_4 (rd l0_5 x6_1)).f4),.int .i64 ((rd_T73 l0_4 (rd l0_5 x6_1)).f5.f0),.slice Ax1 ((rd_T73 l0_4 (rd l0_5 x6_1)).f5.f1).length cx1] 73 (0,0)) (bP BKx1.out) hb);replace HB:=aS HB hb;clear hb;have hczx20:=cZ2 BKz3.out;have hczx22:=cZ9 BKx1.out) | (refine goesM 81 45 Tryz.func81 #[.agg #[.slice Aox1 x109000_1.length cox1,.int .i64 x109001_1],.agg #[.int .i64 ((rd_T73 l0_4 (rd l0_5 x6_1)).f1.f0),.int .i64 ((rd_T73 l0_4 (rd l0_5 x6_1)).f1.f1),.int .i64 ((rd_T73 l0_4 (rd l0_5 x6_1)).f1.f2)],.agg #[.int .i64 ((rd_T73 l0_4 (rd l0_5 x6_1)).f5.f0),.slice Ax1 ((rd_T73 l0_4 (rd l0_5 x6_1)).f5.f1).length cx1]] ?_;refine(XA.calls _ _ _ _ _ _ _ _ _ _ _ _ _ _ _ (rw2 (cX (Kd.R_reads' HO_y1.out).2.2) ((Kd.R_reads' HO_y1.out).2.1)) (rw2 (by exact Kd.C_below HRx1.out (hX HB.out)) HCx1.out) A23.out).mono ?_;rintro e wx4 ⟨vx1,rfl,hoz1,hb⟩;refine⟨_,rfl,?_⟩;have HOx1:=aM (Kd.R_lower (Kd.R_new' hoz1 (Kd.R_lt (rX HO_y1.out))) (below_size (hX HB.out)));replace HO_y1:=aM (Kd.R_elder' (rX HO_y1.out) (Kd.R_base hoz1) hb);replace BKz1:=aB BKz1 hb;replace BKz2:=aB BKz2 hb;replace BKz3:=aB BKz3 hb;replace BKx1:=aM (blk_below (g:=gbx1) (o:=.cells #[.int .i64 ((rd_T73 l0_4 (rd l0_5 x6_1)).f0),.int .i64 ((rd_T73 l0_4 (rd l0_5 x6_1)).f1.f0),.int .i64 ((rd_T73 l0_4 (rd l0_5 x6_1)).f1.f1),.int .i64 ((rd_T73 l0_4 (rd l0_5 x6_1)).f1.f2),.int .i64 ((rd_T73 l0_4 (rd l0_5 x6_1)).f2),.int .i64 ((rd_T73 l0_4 (rd l0_5 x6_1)).f3),.int .i64 ((rd_T73 l0_4 (rd l0_5 x6_1)).f4),.int .i64 ((rd_T73 l0_4 (rd l0_5 x6_1)).f5.f0),.slice Ax1 ((rd_T73 l0_4 (rd l0_5 x6_1)).f5.f1).length cx1] 73 (0,0)) (bX BKx1.out) hb);replace HB:=aS HB hb;clear hb hoz1;obtain⟨Aox2,cox2,eox2⟩:=Kd.R_slice HOx1.out;subst eox2;have hczx31:=cZ2 BKz3.out))
   go_roundg k1
   case measure=>have:=HKy1.out;omega
   case rel=>exact⟨(t112),(wrap64 (x6_1+1)),(t113),(t116),(.slice Aox2 t113.length cox2),rS,rS,H',⟨by have:=HKy1.out;omega⟩,⟨(Kd.R_mono (rF HOx1.out BKz3.out) (fun _ hk=>trivial))⟩,⟨(bF BKz1.out)⟩,⟨(bF BKz2.out)⟩,⟨(bP BKz3.out)⟩,⟨(hX HB.out)⟩⟩
end Go.Proofs.YtmljebgideecjaaGreat.P2
