/- A part of the proof of the law FnExactMachineNew: texts of this seat, merged (words, printed functions of the program, plain lemmas). Conditions: none of its own. -/
import Derived.Test.YtmljebgideecjaaGreatP2kFnExactMachineNew9
set_option linter.unusedSimpArgs false
set_option linter.unusedVariables false
set_option maxHeartbeats 8000000
set_option maxRecDepth 100000
namespace Go.Proofs.YtmljebgideecjaaGreat.P2
open Go.Proofs.YtmljebgideecjaaGreatZ Go.RowKit Go.Proofs.YtmljebgideecjaaGreatW.PrintWords Go.Proofs.YtmljebgideecjaaGreatW.PrintLast Go.Proofs.YtmljebgideecjaaGreatW.PrintMore
attribute [local go_sem] max2_int min2_int max_two min_two max_three min_three max_four min_four   -- for this text's walks alone
def Xag.f (l0_0:List Int) (a0_1:Int):Option (List Int × Int):=(some (([]:List Int):List Int)).bind fun y103=>(if y103.length+l0_0.length<17592186044416 then (some ((y103 ++ l0_0),a0_1)) else (none))
def Xag.T1:Bool × List (List Nat × List Nat):=(true,[([],[]),([],[]),([1],[1]),([0,2],[0,2]),([],[]),([4],[4]),([3,5],[3,5]),([6,3,0,1,2,3,4,5,6],[6])])
def Xag.B1:List Nat:=[0,0,2,7,0,16,63,127]
theorem Xag.tab1:rtab .any (opsOf Tryz.f64 1)=Xag.T1:=by kernel_rfl
theorem Xag.bits1:waitsOk Xag.T1.2 Xag.B1=true:=by kernel_rfl
theorem Xag.calls (A0_0:Option Addr) (c0_0:Nat) (l0_0:List Int) (a0_1:Int) (r1:List Int) (r2:Int) (w:World) (h0_0:Rw (Kd.int .i64) w A0_0 c0_0 l0_0) (h:Xag.f l0_0 a0_1=some (r1,r2)) :
  Calls Tryz.prog 64 #[.agg #[.slice A0_0 l0_0.length c0_0,.int .i64 a0_1]] w fun e w'=>∃ v0_:Value,e = .returned (.agg #[v0_,.int .i64 r2])∧Kd.R (Kd.int .i64) 3 w' w.heap.size (fun _=>True) v0_ r1∧Below w.heap.size w w':=by
 have hu41:=Tryz.underlying41
 obtain⟨HR0_0,HC0_0⟩:=h0_0
 have HB:=aM (Below.refl w.heap.size w)
 have H:=h
 unfold Xag.f at H
 clear h
 replace H:=sE H;obtain⟨y103,Ny103,H⟩:=H
 replace H:=ifP H;obtain⟨c2,H⟩:=H
 have LMc2:=aM c2
 clear c2
 obtain⟨y106,hy106⟩:∃ y_:List Int,y_=(y103 ++ l0_0):=⟨_,rfl⟩
 replace H:(some (y106,a0_1))=some (r1,r2):=yH H hy106
 have Ny106:=aM hy106
 clear hy106
 simp only[Option.some.injEq,Prod.mk.injEq] at H
 obtain⟨rfl,rfl⟩:=H
 go_enter Tryz.func64,Tryz.ntmps64
 try go_wp2_with (first | (refine boxE 1 #[.slice A0_0 l0_0.length c0_0,.int .i64 a0_1] 41 ?_;intro gbz1 hg wz1 hbox hb;have BKz1:=aM (hbox);have GWz1:=aG hg HB;replace HB:=aS HB hb;clear hb hbox hg) | (refine boxE 2 #[.slice none 0 0,.int .i64 0] 41 ?_;intro gbz2 hg wz2 hbox hb;have BKz2:=aM (hbox);have GWz2:=aG hg HB;have NBz1:=aL hg BKz1;have NBz2:=aR hg BKz1;replace BKz1:=aB BKz1 hb;replace HB:=aS HB hb;clear hb hbox hg))
 replace BKz1:=aM (blk_drew BKz1.out)
 replace BKz2:=aM (blk_drew BKz2.out)
 replace HB:=aM (below_drew1 HB.out)
 refine start_ (n:=8) (S:=fun w'=>w'.cell? ⟨gbz1,0,none⟩=some (.slice A0_0 l0_0.length c0_0)∧w'.cell? ⟨gbz1,1,none⟩=some (.int .i64 a0_1)) (ds:=[]) (bm 8 0) (by kernel_rfl) rfl (by kernel_rfl) ⟨cK BKz1.out 0,cK BKz1.out 1⟩ (fun hHeld => ?_);refine with_tabW Xag.tab1 Xag.bits1 (fun HT_ HW_ => ?_)
 generalize wz2.drew=wz3 at BKz1 BKz2 HB hHeld ⊢
 refine pZ 1 4 (bm 8 2) HT_.out ?_
 refine pZ 4 7 (bm 8 18) HT_.out ?_
 refine tZ 2 5 (bm 8 22) HT_.out HW_.out hHeld ?_
 refine tZ 5 8 (bm 8 54) HT_.out HW_.out hHeld ?_
 refine oZ 0 (some 3) (bm 8 55) HT_.out (fun K hK => ?_)
 refine Kd.R_lit_step (Kd.int .i64) _ 3 ?hg (N:=3) ?hd (xs:=([]:List Int)) (inner:=[]) (ok:=fun _=>True) (okp:=fun _=>True) ?hr ?hp (fun _ hk=>hk) trivial (Below.refl _ _) (Nat.le_refl _) (by simp) ?_;(case hd=>rfl);(case hg=>rfl);(case hr=>first | (go_simp;done) | (go_simp;rfl));(case hp=>exact(Reps.none _ _))
 intro vz1 wz4 hoz1 hb hg_ hnew_
 clear hg_ hnew_
 (first | rw[← Ny103.out] at hoz1 | (simp only[Int.reduceToNat] at hoz1;rw[← Ny103.out] at hoz1))
 have HOz1:=aM (Kd.R_lower hoz1 (below_size (hX HB.out)))
 replace BKz1:=aB BKz1 hb
 replace BKz2:=aB BKz2 hb
 replace HB:=aS HB hb
 clear hb hoz1
 refine hK.out _ _ ⟨cK BKz1.out 0,cK BKz1.out 1⟩ (fun hHeld => ?_)
 clear hK K
 refine nZ 3 ?_
 refine oZ 3 (some 6) (bm 8 63) HT_.out (fun K hK => ?_)
 refine Kd.R_append_rows_step (Kd.int .i64) (w0:=w) w.heap.size (by rfl) (.tmp 3) (.tmp 5) 28 3 (.int .i64 0) 8 rfl Tryz.underlying28 info3 rfl (by decide) (by omega) vz1 y103 l0_0 _ _ _ (fun _=>True) (fun _=>False) rfl rfl ?aO ?aR (fun _ _ h=>h) (fun _ h=>h.elim) ?aF ?aB ?aS ?aL ?_
 (case aR=>repeat (first | exact(Kd.C_below HR0_0.out HB.out) | (with_reducible refine Kd.C_alloc ?_ _) | (with_reducible refine Kd.C_drewN ?_ _) | (with_reducible refine Kd.C_drew ?_)))
 (case aB=>exact(hX HB.out))
 (case aF=>exact(fun _ _=>trivial))
 (case aO=>exact(rX HOz1.out))
 (case aS=>exact(below_size (hX HB.out)))
 (case aL=>have:=LMc2.out;omega)
 intro vz2 wz5 ho hb hg hat
 rw[← Ny106.out] at ho
 have HOz2:=aM (ho)
 replace BKz1:=aM (blk_grown (g:=gbz1) (o:=.cells #[.slice A0_0 l0_0.length c0_0,.int .i64 a0_1] 41 (0,0)) (bX BKz1.out) hg (Kd.R_ne HOz1.out BKz1.out (by decide)))
 replace BKz2:=aM (blk_grown (g:=gbz2) (o:=.cells #[.slice none 0 0,.int .i64 0] 41 (0,0)) (bX BKz2.out) hg (Kd.R_ne HOz1.out BKz2.out (by decide)))
 replace HB:=aM (hb)
 clear HOz1
 clear ho hb hg hat
 obtain⟨Aoz1,coz1,eoz1⟩:=Kd.R_slice HOz2.out
 (first | subst eoz1 | (injection eoz1 with f1_ f2_ f3_;have fz1:=f1_.symm;have fz2:=f3_.symm;clear f1_ f2_ f3_;subst fz1;subst fz2))
 refine hK.out _ _ ⟨cK BKz1.out 0,cK BKz1.out 1⟩ (fun hHeld => ?_)
 clear hK K
 refine nZ 6 ?_
 refine pZ 6 9 (bm 8 127) HT_.out ?_
 refine oZ 7 none (bm 8 255) HT_.out (fun K hK => ?_)
 have hsz1:wz5.cell? ⟨gbz2,0,none⟩=some (.slice none 0 0):=(blk_cell BKz2.out 0).trans rfl
 have hfsz1:=blk_frozen BKz2.out 0
 have hnsz1:=NBz1.out
 have hmsz1:=NBz2.out
 have hsz2:wz5.cell? ⟨gbz2,1,none⟩=some (.int .i64 0):=(blk_cell BKz2.out 1).trans rfl
 have hfsz2:=blk_frozen BKz2.out 1
 have hnsz2:=NBz1.out
 have hmsz2:=NBz2.out
 refine skip_ (w1:=?_) (by rfl) rfl ?_ ?_
 rotate_left
 ·go_simp
  rfl
 refine hK.out _ _ ⟨(fA NBz1.out hHeld.1),(fA NBz1.out hHeld.2)⟩ (fun hHeld => ?_)
 clear hK K
 refine done_ (done_of HT_.out (by kernel_rfl)) ?_
 try go_wp2
 refine bodyPost_ret (results_cell_row rfl _ _ gbz2 41 #[.slice Aoz1 y106.length coz1,.int .i64 a0_1] (0,0) _ rfl (bP BKz2.out) Tryz.underlying41 rfl (by kernel_rfl)) rfl ?_
 exact⟨_,rE,(Kd.R_mono (rF HOz2.out BKz2.out) (fun _ hk=>trivial)),(hX HB.out)⟩
def XaH.f (l0:List (S69)):Option ((List (S69)) × Int × Bool × (List (S172)) × (List (S174))):=(some (([]:List (S69)):List (S69))).bind fun y102=>(if y102.length+l0.length<5864062014805 then (some ((y102 ++ l0),0,false,([]:List (S172)),([]:List (S174)))) else (none))
theorem XaH.calls (A0:Option Addr) (c0:Nat) (l0:List (S69)) (r1:List (S69)) (r2:Int) (r3:Bool) (r4:List (S172)) (r5:List (S174)) (w:World) (h0:Rw k69 w A0 c0 l0) (h:XaH.f l0=some (r1,r2,r3,r4,r5)) :
  Calls Tryz.prog 65 #[.slice A0 l0.length c0] w fun e w'=>∃ v0_ v3_ v4_:Value,e = .returned (.agg #[v0_,.int .i64 r2,.bool r3,v3_,v4_])∧Kd.R k69 69 w' w.heap.size (fun _=>True) v0_ r1∧Kd.R k172 172 w' w.heap.size (fun _=>True) v3_ r4∧Kd.R k174 174 w' w.heap.size (fun _=>True) v4_ r5∧Below w.heap.size w w':=by
 have hu97:=Tryz.underlying97
 obtain⟨HR0,HC0⟩:=h0
 have HB:=aM (Below.refl w.heap.size w)
 have H:=h
 unfold XaH.f at H
 clear h
 replace H:=sE H;obtain⟨y102,Ny102,H⟩:=H
 replace H:=ifP H;obtain⟨c2,H⟩:=H
 have LMc2:=aM c2
 clear c2
 obtain⟨y105,hy105⟩:∃ y_:List (S69),y_=(y102 ++ l0):=⟨_,rfl⟩
 replace H:(some (y105,0,false,([]:List (S172)),([]:List (S174))))=some (r1,r2,r3,r4,r5):=yH H hy105
 have Ny105:=aM hy105
 clear hy105
 simp only[Option.some.injEq,Prod.mk.injEq] at H
 obtain⟨rfl,rfl,rfl,rfl,rfl⟩:=H
 go_enter Tryz.func65,Tryz.ntmps65
 go_wp2_with (first | (refine boxE 2 #[.slice none 0 0,.int .i64 0,.bool false,.slice none 0 0,.slice none 0 0] 97 ?_;intro gbz1 hg wz1 hbox hb;have BKz1:=aM (hbox);have GWz1:=aG hg HB;replace HB:=aS HB hb;clear hb hbox hg) | ((with_reducible refine gate_dst (N:=3) rfl ?_);refine Kd.R_lit k69 _ 69 ?hg (N:=3) ?hd (xs:=([]:List (S69))) (inner:=[]) (ok:=fun _=>True) (okp:=fun _=>True) ?hr ?hp (fun _ hk=>hk) trivial (Below.refl _ _) (Nat.le_refl _) (by simp) ?_;(case hd=>rfl);(case hg=>rfl);(case hr=>first | (go_simp;done) | (go_simp;rfl));(case hp=>exact(Reps.none _ _));intro vz1 wz2 hoz1 hb hg_ hnew_;clear hg_ hnew_;(first | rw[← Ny102.out] at hoz1 | (simp only[Int.reduceToNat] at hoz1;rw[← Ny102.out] at hoz1));have HOz1:=aM (Kd.R_lower hoz1 (below_size (hX HB.out)));replace BKz1:=aB BKz1 hb;replace HB:=aS HB hb;clear hb hoz1) | ((with_reducible refine gate_builtin (b:=.append) (xs:=#[.tmp 3,.tmp 4]) rfl ?_);at_builtin;refine Kd.R_append_rows k69 (w0:=w) w.heap.size rfl (.tmp 3) (.tmp 4) 93 69 (.agg #[(.int .i64 0),(.int .i64 0),(.int .i64 0)]) 24 rfl Tryz.underlying93 info69 rfl (by decide) (by omega) vz1 y102 l0 _ _ _ (fun _=>True) (fun _=>False) rfl rfl ?aO ?aR (fun _ _ h=>h) (fun _ h=>h.elim) ?aF ?aB ?aS ?aL ?_;(case aR=>repeat (first | exact(Kd.C_below HR0.out HB.out) | (with_reducible refine Kd.C_alloc ?_ _) | (with_reducible refine Kd.C_drewN ?_ _) | (with_reducible refine Kd.C_drew ?_)));(case aB=>exact(hX HB.out));(case aF=>exact(fun _ _=>trivial));(case aO=>exact(rX HOz1.out));(case aS=>exact(below_size (hX HB.out)));(case aL=>have:=LMc2.out;omega);intro vz2 wz3 ho hb hg hat;rw[← Ny105.out] at ho;have HOz2:=aM (ho);replace BKz1:=aM (blk_grown (g:=gbz1) (o:=.cells #[.slice none 0 0,.int .i64 0,.bool false,.slice none 0 0,.slice none 0 0] 97 (0,0)) (bX BKz1.out) hg (Kd.R_ne HOz1.out BKz1.out (by decide)));replace HB:=aM (hb);clear HOz1;clear ho hb hg hat;obtain⟨Aoz1,coz1,eoz1⟩:=Kd.R_slice HOz2.out;subst eoz1;have hczz1:=cZ5 BKz1.out))
 refine bodyPost_ret (results_cell_row rfl _ _ gbz1 97 #[.slice Aoz1 y105.length coz1,.int .i64 0,.bool false,.slice none 0 0,.slice none 0 0] (0,0) _ rfl (bP BKz1.out) Tryz.underlying97 rfl (by kernel_rfl)) rfl ?_
 exact⟨_,(Value.slice none 0 0),(Value.slice none 0 0),rE,(Kd.R_mono (rF HOz2.out BKz1.out) (fun _ hk=>trivial)),(by first | exact Kd.R_nil _ _ _ _ _ | exact Kd.S_nil _ _ _ _ _ | exact Kd.V_nil _ _ _ _ _ | exact Kd.N_nil _ _ _ _ _ | exact Kd.Q_nil _ _ _ _ _),(by first | exact Kd.R_nil _ _ _ _ _ | exact Kd.S_nil _ _ _ _ _ | exact Kd.V_nil _ _ _ _ _ | exact Kd.N_nil _ _ _ _ _ | exact Kd.Q_nil _ _ _ _ _),(hX HB.out)⟩
def Xac.l0:Nat→List Int→List Int→Int→Option (List Int)
 | 0,_,_,_=>none
 | k+1,x0,x3,x4=>if x4<(x0.length:Int) then (if 0≤x4 then (if x4<(x3.length:Int) then (Xac.l0 k x0 (x3.set (x4:Int).toNat (rd x0 x4)) (wrap64 (x4+1))) else (none)) else (none)) else (some x3)
def Xac.f (k:Nat) (l0:List Int):Option (List Int):=if 0≤(l0.length:Int) then (if ((l0.length:Int):Int).toNat≤35184372088832 then (Xac.l0 k l0 (List.replicate ((l0.length:Int):Int).toNat 0) 0) else (none)) else (none)
theorem Xac.calls (k:Nat) (A0:Option Addr) (c0:Nat) (l0:List Int) (r:List Int) (w:World) (h0:Rw (Kd.int .i64) w A0 c0 l0) (H:Xac.f k l0=some r) :
  Calls Tryz.prog 47 #[.slice A0 l0.length c0] w fun e w'=>∃ v0_:Value,e = .returned (v0_)∧Kd.R (Kd.int .i64) 3 w' w.heap.size (fun _=>True) v0_ r∧Below w.heap.size w w':=by
 obtain⟨HR0,HC0⟩:=h0
 have HB:=aM (Below.refl w.heap.size w)
 unfold Xac.f at H
 replace H:=ifP H;obtain⟨c2,H⟩:=H
 have c2b0:=eq_true c2
 have c2b1:=decide_eq_true c2
 clear c2
 replace H:=ifP H;obtain⟨c3,H⟩:=H
 have c3b0:=eq_true c3
 have c3b1:=decide_eq_true c3
 clear c3
 obtain⟨y101,hy101⟩:∃ y_:List Int,y_=(List.replicate ((l0.length:Int):Int).toNat 0):=⟨_,rfl⟩
 replace H:(Xac.l0 k l0 y101 0)=some r:=yH H hy101
 have Ny101:=aM hy101
 clear hy101
 have H':=aM H
 clear H
 go_enter Tryz.func47,Tryz.ntmps47
 go_wp2_with ((with_reducible refine gate_dst (N:=7) rfl ?_);refine Kd.R_make (Kd.int .i64) _ 3 rfl (N:=7) rfl 28 _ _ rfl (l0.length:Int) rfl rfl Tryz.underlying28 (.int .i64 0) 8 info3 rfl (by decide) (by omega) 0 (ok:=fun _=>True) (okp:=fun _=>True) rfl (fun _ hk=>hk) trivial (odA) (Nat.le_trans (Nat.mul_le_mul_right _ (odA:(l0.length:Int).toNat≤35184372088832)) (by omega)) (Below.refl _ _) (Nat.le_refl _) ?_;intro vz1 wz1 hoz1 hb hg_ hnew_;clear hg_ hnew_;(first | rw[← Ny101.out] at hoz1 | (simp only[Int.reduceToNat] at hoz1;rw[← Ny101.out] at hoz1));have HOz1:=aM (Kd.R_lower hoz1 (below_size (hX HB.out)));replace HB:=aS HB hb;clear hb hoz1)
 go_loopg [4] k (fun kq v4 w'=>∃ (x3_1:List Int) (x4_1:Int),v4 = .int .i64 x4_1∧Aside0 (Xac.l0 kq l0 x3_1 x4_1=some r)∧Aside0 (kq≤k)∧Aside0 (Kd.R (Kd.int .i64) 3 w' w.heap.size (fun _=>True) vz1 x3_1)∧Aside0 (Below w.heap.size w w'))
 case atStart=>exact⟨(y101),(0),rS,H',⟨Nat.le_refl _⟩,⟨(rX HOz1.out)⟩,⟨(hX HB.out)⟩⟩
 case round =>
  clear H'
  try clear c2
  try clear c2b0
  try clear c2b1
  try clear c3
  try clear c3b0
  try clear c3b1
  obtain⟨x3_1,x4_1,rfl,HA,HKy1,HO_y1,HB⟩:=hrel
  cases gk with
  | zero=>exact absurd HA.out (by simp[Xac.l0])
  | succ k1 =>
   have H:=HA.out
   clear HA
   simp only[Xac.l0] at H
   revert H;refine iN ?_ ?_<;>intro c6b0 H
   ·obtain rfl:=sI H
    go_wp2
    go_ret
    exact⟨_,rE,(rX HO_y1.out),(hX HB.out)⟩
   replace H:=ifQ H;obtain⟨c7b0,H⟩:=H
   replace H:=ifQ H;obtain⟨c8b0,H⟩:=H
   obtain⟨y105,hy105⟩:∃ y_:List Int,y_=(x3_1.set (x4_1:Int).toNat (rd l0 x4_1)):=⟨_,rfl⟩
   replace H:(Xac.l0 k1 l0 y105 (wrap64 (x4_1+1)))=some r:=yH H hy105
   have Ny105:=aM hy105
   clear hy105
   have H':=aM H
   clear H
   obtain⟨adx1,ex1,px1,qx1,hxx1⟩:=at_ic HR0 HB x4_1
   cases ex1
   have px2:0≤(x4_1:Int):=odA
   have qx2:(x4_1:Int)<((x3_1.length:Int):Int):=odA
   obtain⟨gox1,cox1,eox1,gbx1,glx1,clx1,HGx1⟩:=Kd.R_form HO_y1.out (by omega)
   (first | cases eox1 | (injection eox1 with ea_ en_ ec_;(first | subst ea_ | (injection ea_ with ea_;subst ea_));subst ec_;clear en_))
   have GBx1:=aM gbx1
   have GGx1:=aM HGx1
   clear gbx1 glx1 HGx1
   obtain⟨hxx2,hfx1⟩:=Kd.R_celln 0 HO_y1.out (x4_1:Int) px2 qx2
   replace px2:=eq_true px2
   replace qx2:=eq_true qx2
   have HPx1:=Kd.R_putg HO_y1.out (x4_1:Int) (rd l0 x4_1)
   go_wp2_with ((with_reducible refine gate_store (t:=3) (p:=20) rfl ?_);refine store_event (t:=3) (p:=20) (v:=?vo_wx1) (w1:=(wr.setCell ⟨gox1,(x4_1:Int).toNat,none⟩ (.int .i64 (rd l0 x4_1)))) ?hg ?ho ?hn ?hr ?_;(case ho=>rfl);(case hg=>rfl);(case hn=>rfl);(case hr=>first | (go_simp;done) | (go_simp;rfl));intro wx1 hw;have hg:wr.grownBy wx1 (some gox1):=(by rw[hw];exact HPx1.2);have hp_:Kd.R (Kd.int .i64) 3 wx1 w.heap.size (fun _=>True) (.slice (some ⟨gox1,0,none⟩) x3_1.length cox1) y105:=(by rw[hw,Ny105.out];exact HPx1.1);clear HPx1;replace HO_y1:=aM (hp_);replace HB:=aM ((by rw[hw];exact below_set (HB.out) GBx1.out:Below w.heap.size w wx1));clear hg hw hp_)
   go_roundg k1
   case measure=>have:=HKy1.out;omega
   case rel=>exact⟨(y105),(wrap64 (x4_1+1)),rS,H',⟨by have:=HKy1.out;omega⟩,⟨(rX HO_y1.out)⟩,⟨(hX HB.out)⟩⟩
def Xbe.f (a0_0:Int) (a0_1:Int) (a0_2:Int):Option (Int × Int × Int):=some (a0_0,a0_1,a0_2)
theorem Xbe.calls (a0_0:Int) (a0_1:Int) (a0_2:Int) (r1:Int) (r2:Int) (r3:Int) (w:World) (H:Xbe.f a0_0 a0_1 a0_2=some (r1,r2,r3)) :
  Calls Tryz.prog 126 #[.agg #[.int .i64 a0_0,.int .i64 a0_1,.int .i64 a0_2]] w fun e w'=>e = .returned (.agg #[.int .i64 r1,.int .i64 r2,.int .i64 r3])∧Below w.heap.size w w':=by
 have hu116:=Tryz.underlying116
 have hu69:=Tryz.underlying69
 have HB:=aM (Below.refl w.heap.size w)
 unfold Xbe.f at H
 simp only[Option.some.injEq,Prod.mk.injEq] at H
 obtain⟨rfl,rfl,rfl⟩:=H
 go_enter Tryz.func126,Tryz.ntmps126
 go_wp2_with (first | (refine boxE 1 #[.int .i64 a0_0,.int .i64 a0_1,.int .i64 a0_2] 116 ?_;intro gbz1 hg wz1 hbox hb;have BKz1:=aM (hbox);have GWz1:=aG hg HB;replace HB:=aS HB hb;clear hb hbox hg) | (refine boxE 2 #[.int .i64 0,.int .i64 0,.int .i64 0] 69 ?_;intro gbz2 hg wz2 hbox hb;have BKz2:=aM (hbox);have GWz2:=aG hg HB;have NBz1:=aL hg BKz1;have NBz2:=aR hg BKz1;replace BKz1:=aB BKz1 hb;replace HB:=aS HB hb;clear hb hbox hg) | (refine boxE 3 #[.int .i64 0,.int .i64 0,.int .i64 0] 69 ?_;intro gbz3 hg wz3 hbox hb;have BKz3:=aM (hbox);have GWz3:=aG hg HB;have NBz3:=aL hg BKz1;have NBz4:=aR hg BKz1;have NBz5:=aL hg BKz2;have NBz6:=aR hg BKz2;replace BKz1:=aB BKz1 hb;replace BKz2:=aB BKz2 hb;replace HB:=aS HB hb;clear hb hbox hg;have hnbz1:=nB NBz1 NBz2;have hnbz2:=nB NBz3 NBz4;have hczz1:=cZ3 BKz1.out;have hnbz3:=nB NBz6 NBz5;have hczz4:=cZ3 BKz3.out;have hczz7:=cZ3 BKz2.out))
 refine bodyPost_ret (results_cell_row rfl _ _ gbz2 69 #[.int .i64 a0_0,.int .i64 a0_1,.int .i64 a0_2] (0,0) _ rfl (bP BKz2.out) Tryz.underlying69 rfl (by kernel_rfl)) rfl ?_
 exact⟨rE,(hX HB.out)⟩
def Xd.f (a0:Int) (a1:Int) (a2:Int):Option (Bool):=if a0 ≥ a1 then (some (decide (a0≤a2))) else (some false)
theorem Xd.calls (a0:Int) (a1:Int) (a2:Int) (r:Bool) (w:World) (H:Xd.f a0 a1 a2=some r) :
  Calls Tryz.prog 102 #[.int .i64 a0,.int .i64 a1,.int .i64 a2] w fun e w'=>e = .returned (.bool r)∧Drawn0 w w':=by
 unfold Xd.f at H
 go_enter Tryz.func102,Tryz.ntmps102
 revert H;refine iP ?_ ?_<;>intro c4b0 H
 ·obtain rfl:=sI H
  go_wp2
  go_ret
  exact⟨by first | rfl | (simp;done) | (simp[*];done),dX⟩
 obtain rfl:=sI H
 go_wp2
 go_ret
 exact⟨by first | rfl | (simp;done) | (simp[*];done),dX⟩
def X7.l0:Nat→Int→List (S165)→Int→Int→Option (Int × Int × Int × Bool)
 | 0,_,_,_,_=>none
 | k+1,x1,x9,x10,x11=>if x11<x10 then (if 0≤x11 then (if x11<(x9.length:Int) then (if ((rd_T165 x9 x11).f0)=x1 then (some ((rd_T165 x9 x11).f0,(rd_T165 x9 x11).f1,(rd_T165 x9 x11).f2,true)) else (X7.l0 k x1 x9 x10 (wrap64 (x11+1)))) else (none)) else (none)) else (some (0,0,0,false))
def X7.f (k:Nat) (a0_0:Int) (a0_1:Int) (l0_2:List (S165)) (a0_3:Int) (l0_4:List Int) (a1:Int):Option (Int × Int × Int × Bool):=X7.l0 k a1 l0_2 (l0_2.length:Int) 0
theorem X7.calls (k:Nat) (a0_0:Int) (a0_1:Int) (A0_2:Option Addr) (c0_2:Nat) (l0_2:List (S165)) (a0_3:Int) (A0_4:Option Addr) (c0_4:Nat) (l0_4:List Int) (a1:Int) (r1:Int) (r2:Int) (r3:Int) (r4:Bool) (w:World) (h0_2:Rw k165 w A0_2 c0_2 l0_2) (h0_4:Rw (Kd.int .i64) w A0_4 c0_4 l0_4) (H:X7.f k a0_0 a0_1 l0_2 a0_3 l0_4 a1=some (r1,r2,r3,r4)) :
  Calls Tryz.prog 173 #[.agg #[.int .i64 a0_0,.int .i64 a0_1,.slice A0_2 l0_2.length c0_2,.int .i64 a0_3,.slice A0_4 l0_4.length c0_4],.int .i64 a1] w fun e w'=>e = .returned (.tuple #[.agg #[.int .i64 r1,.int .i64 r2,.int .i64 r3],.bool r4])∧Below w.heap.size w w':=by
 have hu162:=Tryz.underlying162
 have hu165:=Tryz.underlying165
 obtain⟨HR0_2,HC0_2⟩:=h0_2
 obtain⟨HR0_4,HC0_4⟩:=h0_4
 have HB:=aM (Below.refl w.heap.size w)
 unfold X7.f at H
 have H':=aM H
 clear H
 go_enter Tryz.func173,Tryz.ntmps173
 go_wp2_with (first | (refine boxE 2 #[.int .i64 a0_0,.int .i64 a0_1,.slice A0_2 l0_2.length c0_2,.int .i64 a0_3,.slice A0_4 l0_4.length c0_4] 162 ?_;intro gbz1 hg wz1 hbox hb;have BKz1:=aM (hbox);have GWz1:=aG hg HB;replace HB:=aS HB hb;clear hb hbox hg) | (refine boxE 4 #[.int .i64 0,.int .i64 0,.int .i64 0] 165 ?_;intro gbz2 hg wz2 hbox hb;have BKz2:=aM (hbox);have GWz2:=aG hg HB;have NBz1:=aL hg BKz1;have NBz2:=aR hg BKz1;replace BKz1:=aB BKz1 hb;replace HB:=aS HB hb;clear hb hbox hg;have hnbz1:=nB NBz1 NBz2;have hczz1:=cZ5 BKz1.out))
 go_loopg [11] k (fun kq v11 w'=>∃ (x11_1:Int) (x103000_1:Int) (x103001_1:Int) (x103002_1:Int),v11 = .int .i64 x11_1∧Aside0 (X7.l0 kq a1 l0_2 (l0_2.length:Int) x11_1=some (r1,r2,r3,r4))∧Aside0 (kq≤k)∧Aside0 (w'.heap[gbz1]? = some (.cells #[.int .i64 a0_0,.int .i64 a0_1,(.slice A0_2 l0_2.length c0_2),.int .i64 a0_3,(.slice A0_4 l0_4.length c0_4)] 162 (0,0)))∧Aside0 (w'.heap[gbz2]? = some (.cells #[.int .i64 x103000_1,.int .i64 x103001_1,.int .i64 x103002_1] 165 (0,0)))∧Aside0 (Below w.heap.size w w'))
 case atStart=>exact⟨(0),(0),(0),(0),rS,H',⟨Nat.le_refl _⟩,⟨(bX BKz1.out)⟩,⟨(bX BKz2.out)⟩,⟨(hX HB.out)⟩⟩
 case round =>
  clear H'
  try clear hczz1
  obtain⟨x11_1,x103000_1,x103001_1,x103002_1,rfl,HA,HKy1,BKz1,BKz2,HB⟩:=hrel
  cases gk with
  | zero=>exact absurd HA.out (by simp[X7.l0])
  | succ k1 =>
   have H:=HA.out
   clear HA
   simp only[X7.l0] at H
   revert H;refine iN ?_ ?_<;>intro c7b0 H
   ·simp only[Option.some.injEq,Prod.mk.injEq] at H
    obtain⟨rfl,rfl,rfl,rfl⟩:=H
    have hnbx1:=NBz2.out
    have hncx1:=NBz1.out
    have hczx1:=cZ3 BKz2.out
    go_wp2
    refine bodyPost_ret (results_ct rfl _ _ gbz2 165 #[.int .i64 0,.int .i64 0,.int .i64 0] (0,0) _ rfl (bP BKz2.out) Tryz.underlying165 rfl (by kernel_rfl)) rfl ?_
    exact⟨rE,(hX HB.out)⟩
   replace H:=ifQ H;obtain⟨c8b0,H⟩:=H
   replace H:=ifQ H;obtain⟨c9b0,H⟩:=H
   revert H;refine eN ?_ ?_<;>intro c10b0 c10b1 H
   ·have H':=aM H
    clear H
    obtain⟨adx1,ex1,px1,qx1,hxx1⟩:=at_T165c HR0_2 HB x11_1
    cases ex1
    go_wp2_with (refine boxE 7 #[.int .i64 0,.int .i64 0,.int .i64 0] 165 ?_;intro gbx1 hg wx1 hbox hb;have BKx1:=aM (hbox);have GWx1:=aG hg HB;have GEx1:=aG hg HB;have NBx1:=aL hg BKz1;have NBx2:=aR hg BKz1;have NBx3:=aL hg BKz2;have NBx4:=aR hg BKz2;replace BKz1:=aB BKz1 hb;replace BKz2:=aB BKz2 hb;replace HB:=aS HB hb;clear hb hbox hg;have hnbx1:=NBx2.out;have hncx1:=NBx1.out;have hnbx2:=NBx4.out;have hncx2:=NBx3.out;have hczx1:=cZ3 BKx1.out)
    go_roundg k1
    case measure=>have:=HKy1.out;omega
    case rel=>exact⟨(wrap64 (x11_1+1)),(x103000_1),(x103001_1),(x103002_1),rS,H',⟨by have:=HKy1.out;omega⟩,⟨(bF BKz1.out)⟩,⟨(bF BKz2.out)⟩,⟨(hX HB.out)⟩⟩
   simp only[Option.some.injEq,Prod.mk.injEq] at H
   obtain⟨rfl,rfl,rfl,rfl⟩:=H
   obtain⟨adx1,ex1,px1,qx1,hxx1⟩:=at_T165c HR0_2 HB x11_1
   cases ex1
   go_wp2_with (refine boxE 7 #[.int .i64 0,.int .i64 0,.int .i64 0] 165 ?_;intro gbx1 hg wx1 hbox hb;have BKx1:=aM (hbox);have GWx1:=aG hg HB;have GEx1:=aG hg HB;have NBx1:=aL hg BKz1;have NBx2:=aR hg BKz1;have NBx3:=aL hg BKz2;have NBx4:=aR hg BKz2;replace BKz1:=aB BKz1 hb;replace BKz2:=aB BKz2 hb;replace HB:=aS HB hb;clear hb hbox hg;have hnbx1:=NBx2.out;have hncx1:=NBx1.out;have hnbx2:=NBx4.out;have hncx2:=NBx3.out;have hczx1:=cZ3 BKx1.out;have hnbx3:=nB NBz2 NBz1;have hczx4:=cZ3 BKz2.out)
   refine bodyPost_ret (results_ct rfl _ _ gbz2 165 #[.int .i64 ((rd_T165 l0_2 x11_1).f0),.int .i64 ((rd_T165 l0_2 x11_1).f1),.int .i64 ((rd_T165 l0_2 x11_1).f2)] (0,0) _ rfl (bP BKz2.out) Tryz.underlying165 rfl (by kernel_rfl)) rfl ?_
   exact⟨rE,(hX HB.out)⟩
def slices_Index_int_int.l0:Nat→List Int→Int→Int→Int→Option (Int)
 | 0,_,_,_,_=>none
 | k+1,x0,x1,x7,x8=>if x8<x7 then (if 0≤x8 then (if x8<(x0.length:Int) then (if x1=(rd x0 x8) then (some x8) else (slices_Index_int_int.l0 k x0 x1 x7 (wrap64 (x8+1)))) else (none)) else (none)) else (some (-1))
def slices_Index_int_int.f (k:Nat) (l0:List Int) (a1:Int):Option (Int):=slices_Index_int_int.l0 k l0 a1 (l0.length:Int) 0
theorem slices_Index_int_int.calls (k:Nat) (A0:Option Addr) (c0:Nat) (l0:List Int) (a1:Int) (r:Int) (w:World) (hr0:Kd.C (Kd.int .i64) w A0 l0.length l0) (hc0:l0.length≤c0) (H:slices_Index_int_int.f k l0 a1=some r) :
  Calls Tryz.prog 209 #[.slice A0 l0.length c0,.int .i64 a1] w fun e w'=>e = .returned (.int .i64 r)∧Drawn0 w w':=by
 have HR0:=aM hr0
 have HC0:=aM hc0
 clear hr0 hc0
 unfold slices_Index_int_int.f at H
 have H':=aM H
 clear H
 go_enter Tryz.func209,Tryz.ntmps209
 go_wp2
 go_loopg [8] k (fun kq v8 w'=>∃ (x8_1:Int),v8 = .int .i64 x8_1∧Aside0 (slices_Index_int_int.l0 kq l0 a1 (l0.length:Int) x8_1=some r)∧Aside0 (kq≤k)∧Drawn0 w w')
 case atStart=>exact⟨(0),rS,H',⟨Nat.le_refl _⟩,dX⟩
 case round =>
  clear H'
  obtain⟨x8_1,rfl,HA,HKy1,⟨my1,rfl⟩⟩:=hrel
  cases gk with
  | zero=>exact absurd HA.out (by simp[slices_Index_int_int.l0])
  | succ k1 =>
   have H:=HA.out
   clear HA
   simp only[slices_Index_int_int.l0] at H
   revert H;refine iN ?_ ?_<;>intro c3b0 H
   ·obtain rfl:=sI H
    go_wp2
    go_ret
    exact⟨by first | rfl | (simp;done) | (simp[*];done),dX⟩
   replace H:=ifQ H;obtain⟨c4b0,H⟩:=H
   replace H:=ifQ H;obtain⟨c5b0,H⟩:=H
   revert H;refine eP ?_ ?_<;>intro c6b0 c6b1 H
   ·obtain rfl:=sI H
    have px1:0≤(x8_1:Int):=odA
    have qx1:x8_1<(l0.length:Int):=odA
    obtain⟨adx1,ex1,hxx1⟩:=Kd.at_int HR0.out x8_1 px1 qx1
    cases ex1
    replace px1:=eq_true px1
    replace qx1:=eq_true qx1
    go_wp2
    go_ret
    exact⟨by first | rfl | (simp;done) | (simp[*];done),dX⟩
   have H':=aM H
   clear H
   have px1:0≤(x8_1:Int):=odA
   have qx1:x8_1<(l0.length:Int):=odA
   obtain⟨adx1,ex1,hxx1⟩:=Kd.at_int HR0.out x8_1 px1 qx1
   cases ex1
   replace px1:=eq_true px1
   replace qx1:=eq_true qx1
   go_wp2
   go_roundg k1
   case measure=>have:=HKy1.out;omega
   case rel=>exact⟨(wrap64 (x8_1+1)),rS,H',⟨by have:=HKy1.out;omega⟩,dX⟩
end Go.Proofs.YtmljebgideecjaaGreat.P2
namespace Go.Proofs.YtmljebgideecjaaGreat.P2
open Go.Proofs.YtmljebgideecjaaGreatZ Go.RowKit Go.Proofs.YtmljebgideecjaaGreatW.PrintWords Go.Proofs.YtmljebgideecjaaGreatW.PrintLast Go.Proofs.YtmljebgideecjaaGreatW.PrintMore
attribute [local go_sem] max2_int min2_int max_two min_two max_three min_three max_four min_four   -- for this text's walks alone
attribute [local go_sem high] eqA69
def XV.l0:Nat→Int→Int→Int→Int→List (S73)→Int→Int→List (S140)→List (S162)→List (S97)→Int→List (S73)→List Int→List Int→Int→List (S69)→Int→Bool→List (S172)→List (S174)→Option (Bool)
 | 0,_,_,_,_,_,_,_,_,_,_,_,_,_,_,_,_,_,_,_,_=>none
 | k+1,x1,x6,x7,x8,x17,x18,x19,x102000,x102001,x102002,x102003,x102004,x102005,x102006,x102007,x104000,x104001,x104002,x104003,x104004=>if x19<x18 then (if 0≤x19 then (if x19<(x17.length:Int) then (if ((rd_T73 x17 x19).f0)=x1 then (if ((rd_T73 x17 x19).f4) ≥ 0 then (XV.l0 k x1 x19 (wrap64 (x7+1)) x8 x17 x18 (wrap64 (x19+1)) x102000 x102001 x102002 x102003 x102004 x102005 x102006 x102007 x104000 x104001 x104002 x104003 x104004) else (XV.l0 k x1 x19 x7 (wrap64 (x8+1)) x17 x18 (wrap64 (x19+1)) x102000 x102001 x102002 x102003 x102004 x102005 x102006 x102007 x104000 x104001 x104002 x104003 x104004)) else (XV.l0 k x1 x6 x7 x8 x17 x18 (wrap64 (x19+1)) x102000 x102001 x102002 x102003 x102004 x102005 x102006 x102007 x104000 x104001 x104002 x104003 x104004)) else (none)) else (none)) else (if x7=x104001 then (if x104002=true then (if x6 ≥ 0 then (if x8=1 then (if 0≤x6 then (if x6<(x102004.length:Int) then (if ((rd_T73 x102004 x6).f4)=(-1) then (if 0≤x104001 then (if x104001<(x104000.length:Int) then (some (((rd_T73 x102004 x6).f1.f0) == ((rd_T69 x104000 x104001).f0) && (((rd_T73 x102004 x6).f1.f1) == ((rd_T69 x104000 x104001).f1) && (((rd_T73 x102004 x6).f1.f2) == ((rd_T69 x104000 x104001).f2))))) else (none)) else (none)) else (some false)) else (none)) else (none)) else (some false)) else (some false)) else (some (x8 == 0))) else (some false))
def XV.f (k:Nat) (l0_0:List (S140)) (l0_1:List (S162)) (l0_2:List (S97)) (a0_3:Int) (l0_4:List (S73)) (l0_5:List Int) (l0_6:List Int) (a0_7:Int) (a1:Int):Option (Bool):=if 0≤a1 then (if a1<(l0_2.length:Int) then (XV.l0 k a1 (-1) 0 0 l0_4 (l0_4.length:Int) 0 l0_0 l0_1 l0_2 a0_3 l0_4 l0_5 l0_6 a0_7 ((rd_T97 l0_2 a1).f0) ((rd_T97 l0_2 a1).f1) ((rd_T97 l0_2 a1).f2) ((rd_T97 l0_2 a1).f3) ((rd_T97 l0_2 a1).f4)) else (none)) else (none)
theorem XV.calls (k:Nat) (A0_0:Option Addr) (c0_0:Nat) (l0_0:List (S140)) (A0_1:Option Addr) (c0_1:Nat) (l0_1:List (S162)) (A0_2:Option Addr) (c0_2:Nat) (l0_2:List (S97)) (a0_3:Int) (A0_4:Option Addr) (c0_4:Nat) (l0_4:List (S73)) (A0_5:Option Addr) (c0_5:Nat) (l0_5:List Int) (A0_6:Option Addr) (c0_6:Nat) (l0_6:List Int) (a0_7:Int) (a1:Int) (r:Bool) (w:World) (h0_0:Rw k140 w A0_0 c0_0 l0_0) (h0_1:Rw k162 w A0_1 c0_1 l0_1) (h0_2:Rw k97 w A0_2 c0_2 l0_2) (h0_4:Rw k73 w A0_4 c0_4 l0_4) (h0_5:Rw (Kd.int .i64) w A0_5 c0_5 l0_5) (h0_6:Rw (Kd.int .i64) w A0_6 c0_6 l0_6) (H:XV.f k l0_0 l0_1 l0_2 a0_3 l0_4 l0_5 l0_6 a0_7 a1=some r) :
  Calls Tryz.prog 107 #[.agg #[.slice A0_0 l0_0.length c0_0,.slice A0_1 l0_1.length c0_1,.slice A0_2 l0_2.length c0_2,.int .i64 a0_3,.slice A0_4 l0_4.length c0_4,.slice A0_5 l0_5.length c0_5,.slice A0_6 l0_6.length c0_6,.int .i64 a0_7],.int .i64 a1] w fun e w'=>e = .returned (.bool r)∧Below w.heap.size w w':=by
 have hu43:=Tryz.underlying43
 have hu97:=Tryz.underlying97
 have hu73:=Tryz.underlying73
 have hu69:=Tryz.underlying69
 obtain⟨HR0_0,HC0_0⟩:=h0_0
 obtain⟨HR0_1,HC0_1⟩:=h0_1
 obtain⟨HR0_2,HC0_2⟩:=h0_2
 obtain⟨HR0_4,HC0_4⟩:=h0_4
 obtain⟨HR0_5,HC0_5⟩:=h0_5
 obtain⟨HR0_6,HC0_6⟩:=h0_6
 have HB:=aM (Below.refl w.heap.size w)
 unfold XV.f at H
 replace H:=ifQ H;obtain⟨c3b0,H⟩:=H
 replace H:=ifQ H;obtain⟨c4b0,H⟩:=H
 have H':=aM H
 clear H
 go_enter Tryz.func107,Tryz.ntmps107
 go_wp2_with (first | (refine boxE 2 #[.slice A0_0 l0_0.length c0_0,.slice A0_1 l0_1.length c0_1,.slice A0_2 l0_2.length c0_2,.int .i64 a0_3,.slice A0_4 l0_4.length c0_4,.slice A0_5 l0_5.length c0_5,.slice A0_6 l0_6.length c0_6,.int .i64 a0_7] 43 ?_;intro gbz1 hg wz1 hbox hb;have BKz1:=aM (hbox);have GWz1:=aG hg HB;have GEz1:=aG hg HB;replace HB:=aS HB hb;clear hb hbox hg;have hczz1:=cZ8 BKz1.out;have pz1:0≤(a1:Int):=odA;have qz1:a1<(l0_2.length:Int):=odA;obtain⟨adz1,Az1,cz1,Az2,cz2,Az3,cz3,ez1,hxz1,hxz2,hxz3,hxz4,hxz5,hlz1,hiz1,hlz2,hiz2,hlz3,hiz3⟩:=at_T97 HR0_2.out a1 pz1 qz1;cases ez1;replace hxz1:=bc HB.out hxz1;replace hxz2:=bc HB.out hxz2;replace hxz3:=bc HB.out hxz3;replace hxz4:=bc HB.out hxz4;replace hxz5:=bc HB.out hxz5;have HRz1:=aM hiz1;have HCz1:=aM hlz1;clear hiz1 hlz1;have HRz2:=aM hiz2;have HCz2:=aM hlz2;clear hiz2 hlz2;have HRz3:=aM hiz3;have HCz3:=aM hlz3;clear hiz3 hlz3;replace pz1:=eq_true pz1;replace qz1:=eq_true qz1) | (refine boxE 5 #[.slice none 0 0,.int .i64 0,.bool false,.slice none 0 0,.slice none 0 0] 97 ?_;intro gbz2 hg wz2 hbox hb;have BKz2:=aM (hbox);have GWz2:=aG hg HB;have GEz2:=aG hg HB;have NBz1:=aL hg BKz1;have NBz2:=aR hg BKz1;replace BKz1:=aB BKz1 hb;replace HB:=aS HB hb;clear hb hbox hg;have hnbz1:=NBz2.out;have hncz1:=NBz1.out;have hczz9:=cZ5 BKz2.out;have hczz14:=cZ8 BKz1.out))
 repeat (go_quiet (fail);try go_wp2_with (first | ((with_reducible refine gate_dst (N:=2) rfl ?_);refine boxF 2 #[.slice A0_0 l0_0.length c0_0,.slice A0_1 l0_1.length c0_1,.slice A0_2 l0_2.length c0_2,.int .i64 a0_3,.slice A0_4 l0_4.length c0_4,.slice A0_5 l0_5.length c0_5,.slice A0_6 l0_6.length c0_6,.int .i64 a0_7] 43 ?_;intro gbz1 hg wz1 hbox hb;have BKz1:=aM (hbox);have GWz1:=aG hg HB;have GEz1:=aG hg HB;replace HB:=aS HB hb;clear hb hbox hg;have hczz1:=cZ8 BKz1.out;have pz1:0≤(a1:Int):=odA;have qz1:a1<(l0_2.length:Int):=odA;obtain⟨adz1,Az1,cz1,Az2,cz2,Az3,cz3,ez1,hxz1,hxz2,hxz3,hxz4,hxz5,hlz1,hiz1,hlz2,hiz2,hlz3,hiz3⟩:=at_T97 HR0_2.out a1 pz1 qz1;cases ez1;replace hxz1:=bc HB.out hxz1;replace hxz2:=bc HB.out hxz2;replace hxz3:=bc HB.out hxz3;replace hxz4:=bc HB.out hxz4;replace hxz5:=bc HB.out hxz5;have HRz1:=aM hiz1;have HCz1:=aM hlz1;clear hiz1 hlz1;have HRz2:=aM hiz2;have HCz2:=aM hlz2;clear hiz2 hlz2;have HRz3:=aM hiz3;have HCz3:=aM hlz3;clear hiz3 hlz3;replace pz1:=eq_true pz1;replace qz1:=eq_true qz1) | ((with_reducible refine gate_dst (N:=5) rfl ?_);refine boxF 5 #[.slice none 0 0,.int .i64 0,.bool false,.slice none 0 0,.slice none 0 0] 97 ?_;intro gbz2 hg wz2 hbox hb;have BKz2:=aM (hbox);have GWz2:=aG hg HB;have GEz2:=aG hg HB;have NBz1:=aL hg BKz1;have NBz2:=aR hg BKz1;replace BKz1:=aB BKz1 hb;replace HB:=aS HB hb;clear hb hbox hg;have hnbz1:=NBz2.out;have hncz1:=NBz1.out;have hczz9:=cZ5 BKz2.out;have hczz14:=cZ8 BKz1.out)))
 go_loopg [6,7,8,19] k (fun kq v6 v7 v8 v19 w'=>∃ (x6_1:Int) (x7_1:Int) (x8_1:Int) (x19_1:Int),v6 = .int .i64 x6_1∧v7 = .int .i64 x7_1∧v8 = .int .i64 x8_1∧v19 = .int .i64 x19_1∧Aside0 (XV.l0 kq a1 x6_1 x7_1 x8_1 l0_4 (l0_4.length:Int) x19_1 l0_0 l0_1 l0_2 a0_3 l0_4 l0_5 l0_6 a0_7 ((rd_T97 l0_2 a1).f0) ((rd_T97 l0_2 a1).f1) ((rd_T97 l0_2 a1).f2) ((rd_T97 l0_2 a1).f3) ((rd_T97 l0_2 a1).f4)=some r)∧Aside0 (kq≤k)∧Aside0 (w'.heap[gbz1]? = some (.cells #[(.slice A0_0 l0_0.length c0_0),(.slice A0_1 l0_1.length c0_1),(.slice (some adz1) l0_2.length c0_2),.int .i64 a0_3,(.slice A0_4 l0_4.length c0_4),(.slice A0_5 l0_5.length c0_5),(.slice A0_6 l0_6.length c0_6),.int .i64 a0_7] 43 (0,0)))∧Aside0 (w'.heap[gbz2]? = some (.cells #[(.slice Az1 ((rd_T97 l0_2 a1).f0).length cz1),.int .i64 ((rd_T97 l0_2 a1).f1),.bool ((rd_T97 l0_2 a1).f2),(.slice Az2 ((rd_T97 l0_2 a1).f3).length cz2),(.slice Az3 ((rd_T97 l0_2 a1).f4).length cz3)] 97 (0,0)))∧Aside0 (Below w.heap.size w w'))
 case atStart=>exact⟨((-1)),(0),(0),(0),rS,rS,rS,rS,H',⟨Nat.le_refl _⟩,⟨(bF BKz1.out)⟩,⟨(bP BKz2.out)⟩,⟨(hX HB.out)⟩⟩
 case round =>
  clear H'
  try clear c3b0
  try clear c4b0
  try clear hczz14
  try clear hczz1
  try clear hczz9
  try clear hxz1
  try clear hxz2
  try clear hxz3
  try clear hxz4
  try clear hxz5
  try clear pz1
  try clear qz1
  obtain⟨x6_1,x7_1,x8_1,x19_1,rfl,rfl,rfl,rfl,HA,HKy1,BKz1,BKz2,HB⟩:=hrel
  cases gk with
  | zero=>exact absurd HA.out (by simp[XV.l0])
  | succ k1 =>
   have H:=HA.out
   clear HA
   simp only[XV.l0] at H
   revert H;refine iP ?_ ?_<;>intro c11b0 H
   ·replace H:=ifP H;obtain⟨c12,H⟩:=H
    have c12b0:=decide_eq_true c12
    clear c12
    replace H:=ifQ H;obtain⟨c13b0,H⟩:=H
    obtain⟨adx1,Ax1,cx1,ex1,px1,qx1,hxx1,HCx1,HRx1⟩:=at_T73c HR0_4 HB x19_1
    cases ex1
    go_wp2_with (refine boxE 10 #[.int .i64 0,.int .i64 0,.int .i64 0,.int .i64 0,.int .i64 0,.int .i64 0,.int .i64 0,.int .i64 0,.slice none 0 0] 73 ?_;intro gbx1 hg wx1 hbox hb;have BKx1:=aM (hbox);have GWx1:=aG hg HB;have GEx1:=aG hg HB;have NBx1:=aL hg BKz1;have NBx2:=aR hg BKz1;have NBx3:=aL hg BKz2;have NBx4:=aR hg BKz2;replace BKz1:=aB BKz1 hb;replace BKz2:=aB BKz2 hb;replace HB:=aS HB hb;clear hb hbox hg;have hnbx1:=NBx2.out;have hncx1:=NBx1.out;have hnbx2:=NBx4.out;have hncx2:=NBx3.out;have hczx1:=cZ9 BKx1.out;refine Stop.out ?_)
    refine⟨?_⟩
    revert H;refine eN ?_ ?_<;>intro c14b0 c14b1 H
    ·have H':=aM H
     clear H
     go_wp2
     repeat (go_quiet (fail);try go_wp2_with ((with_reducible refine gate_dst (N:=10) rfl ?_);refine boxF 10 #[.int .i64 0,.int .i64 0,.int .i64 0,.int .i64 0,.int .i64 0,.int .i64 0,.int .i64 0,.int .i64 0,.slice none 0 0] 73 ?_;intro gbx1 hg wx1 hbox hb;have BKx1:=aM (hbox);have GWx1:=aG hg HB;have GEx1:=aG hg HB;have NBx1:=aL hg BKz1;have NBx2:=aR hg BKz1;have NBx3:=aL hg BKz2;have NBx4:=aR hg BKz2;replace BKz1:=aB BKz1 hb;replace BKz2:=aB BKz2 hb;replace HB:=aS HB hb;clear hb hbox hg;have hnbx1:=NBx2.out;have hncx1:=NBx1.out;have hnbx2:=NBx4.out;have hncx2:=NBx3.out;have hczx1:=cZ9 BKx1.out))
     go_roundg k1
     case measure=>have:=HKy1.out;omega
     case rel=>exact⟨(x6_1),(x7_1),(x8_1),(wrap64 (x19_1+1)),rS,rS,rS,rS,H',⟨by have:=HKy1.out;omega⟩,⟨(bF BKz1.out)⟩,⟨(bF BKz2.out)⟩,⟨(hX HB.out)⟩⟩
    revert H;refine iP ?_ ?_<;>intro c15b0 H
    ·have H':=aM H
     clear H
     go_wp2
     repeat (go_quiet (fail);try go_wp2_with ((with_reducible refine gate_dst (N:=10) rfl ?_);refine boxF 10 #[.int .i64 0,.int .i64 0,.int .i64 0,.int .i64 0,.int .i64 0,.int .i64 0,.int .i64 0,.int .i64 0,.slice none 0 0] 73 ?_;intro gbx1 hg wx1 hbox hb;have BKx1:=aM (hbox);have GWx1:=aG hg HB;have GEx1:=aG hg HB;have NBx1:=aL hg BKz1;have NBx2:=aR hg BKz1;have NBx3:=aL hg BKz2;have NBx4:=aR hg BKz2;replace BKz1:=aB BKz1 hb;replace BKz2:=aB BKz2 hb;replace HB:=aS HB hb;clear hb hbox hg;have hnbx1:=NBx2.out;have hncx1:=NBx1.out;have hnbx2:=NBx4.out;have hncx2:=NBx3.out;have hczx1:=cZ9 BKx1.out))
     go_roundg k1
     case measure=>have:=HKy1.out;omega
     case rel=>exact⟨(x19_1),(wrap64 (x7_1+1)),(x8_1),(wrap64 (x19_1+1)),rS,rS,rS,rS,H',⟨by have:=HKy1.out;omega⟩,⟨(bF BKz1.out)⟩,⟨(bF BKz2.out)⟩,⟨(hX HB.out)⟩⟩
    have H':=aM H
    clear H
    go_wp2
    repeat (go_quiet (fail);try go_wp2_with ((with_reducible refine gate_dst (N:=10) rfl ?_);refine boxF 10 #[.int .i64 0,.int .i64 0,.int .i64 0,.int .i64 0,.int .i64 0,.int .i64 0,.int .i64 0,.int .i64 0,.slice none 0 0] 73 ?_;intro gbx1 hg wx1 hbox hb;have BKx1:=aM (hbox);have GWx1:=aG hg HB;have GEx1:=aG hg HB;have NBx1:=aL hg BKz1;have NBx2:=aR hg BKz1;have NBx3:=aL hg BKz2;have NBx4:=aR hg BKz2;replace BKz1:=aB BKz1 hb;replace BKz2:=aB BKz2 hb;replace HB:=aS HB hb;clear hb hbox hg;have hnbx1:=NBx2.out;have hncx1:=NBx1.out;have hnbx2:=NBx4.out;have hncx2:=NBx3.out;have hczx1:=cZ9 BKx1.out))
    go_roundg k1
    case measure=>have:=HKy1.out;omega
    case rel=>exact⟨(x19_1),(x7_1),(wrap64 (x8_1+1)),(wrap64 (x19_1+1)),rS,rS,rS,rS,H',⟨by have:=HKy1.out;omega⟩,⟨(bF BKz1.out)⟩,⟨(bF BKz2.out)⟩,⟨(hX HB.out)⟩⟩
   revert H;refine eN ?_ ?_<;>intro c28b0 c28b1 H
   ·obtain rfl:=sI H
    have hnbx1:=NBz2.out
    have hncx1:=NBz1.out
    have hczx1:=cZ5 BKz2.out
    go_wp2
    repeat (go_quiet (fail);try go_wp2)
    go_ret
    exact⟨rE,(hX HB.out)⟩
   by_cases c29:((rd_T97 l0_2 a1).f2)=true
   case neg =>
    rw[if_neg c29] at H
    have c29b0:((rd_T97 l0_2 a1).f2)=false:=by simpa using c29
    clear c29
    obtain rfl:=sI H
    have hnbx1:=NBz2.out
    have hncx1:=NBz1.out
    have hczx1:=cZ5 BKz2.out
    go_wp2
    repeat (go_quiet (fail);try go_wp2)
    go_ret
    exact⟨rE,(hX HB.out)⟩
   rw[if_pos c29] at H
   have c29b0:((rd_T97 l0_2 a1).f2)=true:=c29
   clear c29
   revert H;refine iN ?_ ?_<;>intro c30b0 H
   ·obtain rfl:=sI H
    have hnbx1:=NBz2.out
    have hncx1:=NBz1.out
    have hczx1:=cZ5 BKz2.out
    go_wp2
    repeat (go_quiet (fail);try go_wp2)
    go_ret
    exact⟨rE,(hX HB.out)⟩
   revert H;refine eN ?_ ?_<;>intro c31b0 c31b1 H
   ·obtain rfl:=sI H
    have hnbx1:=NBz2.out
    have hncx1:=NBz1.out
    have hczx1:=cZ5 BKz2.out
    go_wp2
    repeat (go_quiet (fail);try go_wp2)
    go_ret
    exact⟨rE,(hX HB.out)⟩
   replace H:=ifQ H;obtain⟨c32b0,H⟩:=H
   replace H:=ifQ H;obtain⟨c33b0,H⟩:=H
   revert H;refine eN ?_ ?_<;>intro c34b0 c34b1 H
   ·obtain rfl:=sI H
    have hnbx1:=NBz2.out
    have hncx1:=NBz1.out
    have hczx1:=cZ5 BKz2.out
    have hczx6:=cZ8 BKz1.out
    obtain⟨adx1,Ax1,cx1,ex1,px1,qx1,hxx1,HCx1,HRx1⟩:=at_T73c HR0_4 HB x6_1
    cases ex1
    go_wp2
    repeat (go_quiet (fail);try go_wp2)
    go_ret
    exact⟨rE,(hX HB.out)⟩
   replace H:=ifQ H;obtain⟨c35b0,H⟩:=H
   replace H:=ifQ H;obtain⟨c36b0,H⟩:=H
   obtain rfl:=sI H
   have hnbx1:=NBz2.out
   have hncx1:=NBz1.out
   have hczx1:=cZ5 BKz2.out
   have hczx6:=cZ8 BKz1.out
   obtain⟨adx1,Ax1,cx1,ex1,px1,qx1,⟨hxx1,hxx2,hxx3,hxx4,hxx5,hxx6,hxx7,hxx8,hxx9⟩,HCx1,HRx1⟩:=at_T73c HR0_4 HB x6_1
   cases ex1
   obtain⟨adx2,Ax2,cx2,ex2,px2,qx2,⟨hxx10,hxx11,hxx12,hxx13,hxx14,hxx15,hxx16,hxx17,hxx18⟩,HCx2,HRx2⟩:=at_T73c HR0_4 HB x6_1
   obtain rfl:adx1=adx2:=(by injection ex2)
   have ea_:=Option.some.inj (hxx9.symm.trans hxx18)
   injection ea_ with ea_ en_ ec_
   subst ea_
   subst ec_
   clear en_
   obtain⟨adx3,ex3,px3,qx3,hxx19⟩:=at_T69c HRz1 HB ((rd_T97 l0_2 a1).f1)
   cases ex3
   go_wp2
   repeat (go_quiet (fail);try go_wp2)
   go_ret
   exact⟨rE,(hX HB.out)⟩
end Go.Proofs.YtmljebgideecjaaGreat.P2
namespace Go.Proofs.YtmljebgideecjaaGreat.P2
open Go.Proofs.YtmljebgideecjaaGreatZ Go.RowKit Go.Proofs.YtmljebgideecjaaGreatW.PrintWords Go.Proofs.YtmljebgideecjaaGreatW.PrintLast Go.Proofs.YtmljebgideecjaaGreatW.PrintMore
attribute [local go_sem] max2_int min2_int max_two min_two max_three min_three max_four min_four   -- for this text's walks alone
def XaD.f  : Option (Int):=some 13
theorem XaD.calls  (r:Int) (w:World) (H:XaD.f  = some r) :
  Calls Tryz.prog 122 #[] w fun e w'=>e = .returned (.int .i64 r)∧Drawn0 w w':=by
 unfold XaD.f at H
 obtain rfl:=sI H
 go_enter Tryz.func122,Tryz.ntmps122
 go_wp2
 go_ret
 exact⟨by first | rfl | (simp;done) | (simp[*];done),dX⟩
end Go.Proofs.YtmljebgideecjaaGreat.P2
