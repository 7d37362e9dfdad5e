/- A part of the proof of the law FnExactReplay: texts of this seat, merged (words, printed functions of the program, plain lemmas). Conditions: none of its own. -/
import Derived.Test.YtmljebgideecjaaGreatP2kFnExactReplay10
set_option linter.unusedSimpArgs false
set_option linter.unusedVariables false
set_option maxHeartbeats 8000000
set_option maxRecDepth 100000
namespace Go.Proofs.YtmljebgideecjaaGreat.P2
open Go.Proofs.YtmljebgideecjaaGreatZ Go.RowKit Go.Proofs.YtmljebgideecjaaGreatW.PrintWords Go.Proofs.YtmljebgideecjaaGreatW.PrintLast Go.Proofs.YtmljebgideecjaaGreatW.PrintMore
attribute [local go_sem] max2_int min2_int max_two min_two max_three min_three max_four min_four   -- for this text's walks alone
def XaK.f (l0_0:List Int) (a0_1:Int) (a1:Int):Option (Int):=(Xar.f l0_0 a1).bind fun t102=>(if t102<0 then (some (-1)) else (some t102))
theorem XaK.calls (A0_0:Option Addr) (c0_0:Nat) (l0_0:List Int) (a0_1:Int) (a1:Int) (r:Int) (w:World) (h0_0:Rw (Kd.int .i64) w A0_0 c0_0 l0_0) (H:XaK.f l0_0 a0_1 a1=some r) :
  Calls Tryz.prog 17 #[.agg #[.slice A0_0 l0_0.length c0_0,.int .i64 a0_1],.int .i64 a1] w fun e w'=>e = .returned (.int .i64 r)∧Below w.heap.size w w':=by
 have hu30:=Tryz.underlying30
 obtain⟨HR0_0,HC0_0⟩:=h0_0
 have HB:=aM (Below.refl w.heap.size w)
 unfold XaK.f at H
 replace H:=bE H;obtain⟨t102,A3,H⟩:=H
 go_enter Tryz.func17,Tryz.ntmps17
 go_wp2_with (first | (refine boxE 2 #[.slice A0_0 l0_0.length c0_0,.int .i64 a0_1] 30 ?_;intro gbz1 hg wz1 hbox hb;have BKz1:=aM (hbox);have GWz1:=aG hg HB;replace HB:=aS HB hb;clear hb hbox hg;have hczz1:=cZ2 BKz1.out) | (refine gD 41 8 Tryz.func41 (Xar.calls _ _ _ _ _ _ (rW HR0_0 HB HC0_0) A3.out) ?_;intro nd;refine Stop.out ?_))
 refine⟨?_⟩
 revert H;refine iP ?_ ?_<;>intro c4b0 H
 ·obtain rfl:=sI H
  exact fS
 exact fR
def XaM.f (a0_0:Int) (l0_1:List Int) (a1:Int):Option (Int):=(Xar.f l0_1 a1).bind fun t102=>(if t102<0 then (some (-1)) else (some t102))
theorem XaM.calls (a0_0:Int) (A0_1:Option Addr) (c0_1:Nat) (l0_1:List Int) (a1:Int) (r:Int) (w:World) (h0_1:Rw (Kd.int .i64) w A0_1 c0_1 l0_1) (H:XaM.f a0_0 l0_1 a1=some r) :
  Calls Tryz.prog 155 #[.agg #[.int .i64 a0_0,.slice A0_1 l0_1.length c0_1],.int .i64 a1] w fun e w'=>e = .returned (.int .i64 r)∧Below w.heap.size w w':=by
 have hu117:=Tryz.underlying117
 obtain⟨HR0_1,HC0_1⟩:=h0_1
 have HB:=aM (Below.refl w.heap.size w)
 unfold XaM.f at H
 replace H:=bE H;obtain⟨t102,A3,H⟩:=H
 go_enter Tryz.func155,Tryz.ntmps155
 go_wp2_with (first | (refine boxE 2 #[.int .i64 a0_0,.slice A0_1 l0_1.length c0_1] 117 ?_;intro gbz1 hg wz1 hbox hb;have BKz1:=aM (hbox);have GWz1:=aG hg HB;replace HB:=aS HB hb;clear hb hbox hg;have hczz1:=cZ2 BKz1.out) | (refine gD 41 8 Tryz.func41 (Xar.calls _ _ _ _ _ _ (rW HR0_1 HB HC0_1) A3.out) ?_;intro nd;refine Stop.out ?_))
 refine⟨?_⟩
 revert H;refine iP ?_ ?_<;>intro c4b0 H
 ·obtain rfl:=sI H
  exact fS
 exact fR
def XaU.f (l0_0:List (S116)) (a0_1:Int) (a0_2:Bool) (l0_3:List (S204)) (l0_4:List (S206)) (a1:Int):Option (Int):=(Xbi.f l0_0 a1).bind fun t102=>(if t102<0 then (some (-1)) else ((XaL.f l0_3 t102).bind fun t103=>(if t103<0 then (some (-1)) else ((XaE.f l0_4 t103).bind fun t104=>(if t104<0 then (some (-1)) else (some t104))))))
theorem XaU.calls (A0_0:Option Addr) (c0_0:Nat) (l0_0:List (S116)) (a0_1:Int) (a0_2:Bool) (A0_3:Option Addr) (c0_3:Nat) (l0_3:List (S204)) (A0_4:Option Addr) (c0_4:Nat) (l0_4:List (S206)) (a1:Int) (r:Int) (w:World) (h0_0:Rw k116 w A0_0 c0_0 l0_0) (h0_3:Rw k204 w A0_3 c0_3 l0_3) (h0_4:Rw k206 w A0_4 c0_4 l0_4) (H:XaU.f l0_0 a0_1 a0_2 l0_3 l0_4 a1=some r) :
  Calls Tryz.prog 90 #[.agg #[.slice A0_0 l0_0.length c0_0,.int .i64 a0_1,.bool a0_2,.slice A0_3 l0_3.length c0_3,.slice A0_4 l0_4.length c0_4],.int .i64 a1] w fun e w'=>e = .returned (.int .i64 r)∧Below w.heap.size w w':=by
 have hu114:=Tryz.underlying114
 obtain⟨HR0_0,HC0_0⟩:=h0_0
 obtain⟨HR0_3,HC0_3⟩:=h0_3
 obtain⟨HR0_4,HC0_4⟩:=h0_4
 have HB:=aM (Below.refl w.heap.size w)
 unfold XaU.f at H
 replace H:=bE H;obtain⟨t102,A3,H⟩:=H
 go_enter Tryz.func90,Tryz.ntmps90
 go_wp2_with (first | (refine boxE 2 #[.slice A0_0 l0_0.length c0_0,.int .i64 a0_1,.bool a0_2,.slice A0_3 l0_3.length c0_3,.slice A0_4 l0_4.length c0_4] 114 ?_;intro gbz1 hg wz1 hbox hb;have BKz1:=aM (hbox);have GWz1:=aG hg HB;replace HB:=aS HB hb;clear hb hbox hg;have hczz1:=cZ5 BKz1.out) | (refine gD 62 8 Tryz.func62 (Xbi.calls _ _ _ _ _ _ (rW HR0_0 HB HC0_0) A3.out) ?_;intro nd;refine Stop.out ?_))
 refine⟨?_⟩
 revert H;refine iP ?_ ?_<;>intro c4b0 H
 ·obtain rfl:=sI H
  exact fS
 replace H:=bE H;obtain⟨t103,A7,H⟩:=H
 go_wp2_with (refine gD 153 14 Tryz.func153 (XaL.calls _ _ _ _ _ _ (rW HR0_3 HB HC0_3) A7.out) ?_;intro nd;refine Stop.out ?_)
 refine⟨?_⟩
 revert H;refine iP ?_ ?_<;>intro c8b0 H
 ·obtain rfl:=sI H
  exact fS
 replace H:=bE H;obtain⟨t104,A11,H⟩:=H
 go_wp2_with (refine gD 154 20 Tryz.func154 (XaE.calls _ _ _ _ _ _ (rW HR0_4 HB HC0_4) A11.out) ?_;intro nd;refine Stop.out ?_)
 refine⟨?_⟩
 revert H;refine iP ?_ ?_<;>intro c12b0 H
 ·obtain rfl:=sI H
  exact fS
 exact fR
def XaX.f (k:Nat) (l0_0:List Int) (a0_1:Int):Option (List Int × Int):=(XO.f k l0_0).bind fun t104=>(some (t104,a0_1))
theorem XaX.calls (k:Nat) (A0_0:Option Addr) (c0_0:Nat) (l0_0:List Int) (a0_1:Int) (r1:List Int) (r2:Int) (w:World) (h0_0:Rw (Kd.int .i64) w A0_0 c0_0 l0_0) (h:XaX.f k l0_0 a0_1=some (r1,r2)) :
  Calls Tryz.prog 20 #[.agg #[.slice A0_0 l0_0.length c0_0,.int .i64 a0_1]] w fun e w'=>∃ v0_:Value,e = .returned (.agg #[v0_,.int .i64 r2])∧Kd.R (Kd.int .i64) 3 w' w.heap.size (fun _=>True) v0_ r1∧Below w.heap.size w w':=by
 have hu30:=Tryz.underlying30
 have hu41:=Tryz.underlying41
 obtain⟨HR0_0,HC0_0⟩:=h0_0
 have HB:=aM (Below.refl w.heap.size w)
 have H:=h
 unfold XaX.f at H
 clear h
 replace H:=bE H;obtain⟨t104,A2,H⟩:=H
 simp only[Option.some.injEq,Prod.mk.injEq] at H
 obtain⟨rfl,rfl⟩:=H
 go_enter Tryz.func20,Tryz.ntmps20
 go_wp2_with (first | (refine boxE 1 #[.slice A0_0 l0_0.length c0_0,.int .i64 a0_1] 30 ?_;intro gbz1 hg wz1 hbox hb;have BKz1:=aM (hbox);have GWz1:=aG hg HB;replace HB:=aS HB hb;clear hb hbox hg) | (refine boxE 2 #[.slice none 0 0,.int .i64 0] 41 ?_;intro gbz2 hg wz2 hbox hb;have BKz2:=aM (hbox);have GWz2:=aG hg HB;have NBz1:=aL hg BKz1;have NBz2:=aR hg BKz1;replace BKz1:=aB BKz1 hb;replace HB:=aS HB hb;clear hb hbox hg) | (refine boxE 3 #[.slice none 0 0,.int .i64 0] 41 ?_;intro gbz3 hg wz3 hbox hb;have BKz3:=aM (hbox);have GWz3:=aG hg HB;have NBz3:=aL hg BKz1;have NBz4:=aR hg BKz1;have NBz5:=aL hg BKz2;have NBz6:=aR hg BKz2;replace BKz1:=aB BKz1 hb;replace BKz2:=aB BKz2 hb;replace HB:=aS HB hb;clear hb hbox hg;have hnbz1:=nB NBz1 NBz2;have hnbz2:=nB NBz3 NBz4;have hczz1:=cZ2 BKz1.out) | (refine goesM 47 6 Tryz.func47 #[.slice A0_0 l0_0.length c0_0] ?_;refine(XO.calls _ _ _ _ _ _ (rW HR0_0 HB HC0_0) A2.out).mono ?_;rintro e wz4 ⟨vz1,rfl,hoz1,hb⟩;refine⟨_,rfl,?_⟩;have HOz1:=aM (Kd.R_lower hoz1 (below_size (hX HB.out)));replace BKz1:=aB BKz1 hb;replace BKz2:=aB BKz2 hb;replace BKz3:=aB BKz3 hb;replace HB:=aS HB hb;clear hb hoz1;obtain⟨Aoz1,coz1,eoz1⟩:=Kd.R_slice HOz1.out;subst eoz1;have hnbz3:=nB NBz6 NBz5;have hczz3:=cZ2 BKz3.out;have hczz5:=cZ2 BKz1.out;have hczz7:=cZ2 BKz2.out))
 refine bodyPost_ret (results_cell_row rfl _ _ gbz2 41 #[.slice Aoz1 t104.length coz1,.int .i64 a0_1] (0,0) _ rfl (bP BKz2.out) Tryz.underlying41 rfl (by kernel_rfl)) rfl ?_
 exact⟨_,rE,(Kd.R_mono (rF2 HOz1.out BKz3.out BKz2.out) (fun _ hk=>trivial)),(hX HB.out)⟩
def X5.l0:Nat→List (S176)→List (S140)→Int→Option ((List (S140)))
 | 0,_,_,_=>none
 | k+1,x0,x3,x4=>if x4<(x0.length:Int) then (if 0≤x4 then ((Xbk.f ((rd_T176 x0 x4).f0) ((rd_T176 x0 x4).f1) ((rd_T176 x0 x4).f2)).bind fun bt105=>(if x4<(x3.length:Int) then (X5.l0 k x0 (x3.set (x4:Int).toNat (⟨bt105.1,bt105.2.1,bt105.2.2⟩:S140)) (wrap64 (x4+1))) else (none))) else (none)) else (some x3)
def X5.f (k:Nat) (l0:List (S176)):Option ((List (S140))):=if 0≤(l0.length:Int) then (if ((l0.length:Int):Int).toNat≤11728124029610 then (X5.l0 k l0 (List.replicate ((l0.length:Int):Int).toNat z140) 0) else (none)) else (none)
theorem X5.calls (k:Nat) (A0:Option Addr) (c0:Nat) (l0:List (S176)) (r:List (S140)) (w:World) (h0:Rw k176 w A0 c0 l0) (H:X5.f k l0=some r) :
  Calls Tryz.prog 97 #[.slice A0 l0.length c0] w fun e w'=>∃ v0_:Value,e = .returned (v0_)∧Kd.R k140 140 w' w.heap.size (fun _=>True) v0_ r∧Below w.heap.size w w':=by
 have hu176:=Tryz.underlying176
 have hu140:=Tryz.underlying140
 obtain⟨HR0,HC0⟩:=h0
 have HB:=aM (Below.refl w.heap.size w)
 unfold X5.f at H
 replace H:=ifP H;obtain⟨c2,H⟩:=H
 have c2b0:=eq_true c2
 have c2b1:=decide_eq_true c2
 clear c2
 replace H:=ifP H;obtain⟨c3,H⟩:=H
 have c3b0:=eq_true c3
 have c3b1:=decide_eq_true c3
 clear c3
 obtain⟨y101,hy101⟩:∃ y_:List (S140),y_=(List.replicate ((l0.length:Int):Int).toNat z140):=⟨_,rfl⟩
 replace H:(X5.l0 k l0 y101 0)=some r:=yH H hy101
 have Ny101:=aM hy101
 clear hy101
 have H':=aM H
 clear H
 go_enter Tryz.func97,Tryz.ntmps97
 go_wp2_with ((with_reducible refine gate_dst (N:=7) rfl ?_);refine Kd.R_make k140 _ 140 rfl (N:=7) rfl 35 _ _ rfl (l0.length:Int) rfl rfl Tryz.underlying35 (.agg #[(.int .i64 0),(.int .i64 0),(.int .i64 0)]) 24 info140 rfl (by decide) (by omega) z140 (ok:=fun _=>True) (okp:=fun _=>True) (k140_mkM _ _ _ z140 ) (fun _ hk=>hk) trivial (odA) (Nat.le_trans (Nat.mul_le_mul_right _ (odA:(l0.length:Int).toNat≤11728124029610)) (by omega)) (Below.refl _ _) (Nat.le_refl _) ?_;intro vz1 wz1 hoz1 hb hg_ hnew_;clear hg_ hnew_;(first | rw[← Ny101.out] at hoz1 | (simp only[Int.reduceToNat] at hoz1;rw[← Ny101.out] at hoz1));have HOz1:=aM (Kd.R_lower hoz1 (below_size (hX HB.out)));replace HB:=aS HB hb;clear hb hoz1)
 go_loopg [4] k (fun kq v4 w'=>∃ (x3_1:List (S140)) (x4_1:Int),v4 = .int .i64 x4_1∧Aside0 (X5.l0 kq l0 x3_1 x4_1=some r)∧Aside0 (kq≤k)∧Aside0 (Kd.R k140 140 w' w.heap.size (fun _=>True) vz1 x3_1)∧Aside0 (Below w.heap.size w w'))
 case atStart=>exact⟨(y101),(0),rS,H',⟨Nat.le_refl _⟩,⟨(rX HOz1.out)⟩,⟨(hX HB.out)⟩⟩
 case round =>
  clear H'
  try clear c2
  try clear c2b0
  try clear c2b1
  try clear c3
  try clear c3b0
  try clear c3b1
  obtain⟨x3_1,x4_1,rfl,HA,HKy1,HO_y1,HB⟩:=hrel
  cases gk with
  | zero=>exact absurd HA.out (by simp[X5.l0])
  | succ k1 =>
   have H:=HA.out
   clear HA
   simp only[X5.l0] at H
   revert H;refine iN ?_ ?_<;>intro c6b0 H
   ·obtain rfl:=sI H
    go_wp2
    go_ret
    exact⟨_,rE,(rX HO_y1.out),(hX HB.out)⟩
   replace H:=ifQ H;obtain⟨c7b0,H⟩:=H
   replace H:=bE H;obtain⟨⟨t105,t106,t107⟩,A8,H⟩:=H
   try dsimp only at H
   replace H:=ifQ H;obtain⟨c9b0,H⟩:=H
   obtain⟨y108,hy108⟩:∃ y_:List (S140),y_=(x3_1.set (x4_1:Int).toNat (⟨t105,t106,t107⟩:S140)):=⟨_,rfl⟩
   replace H:(X5.l0 k1 l0 y108 (wrap64 (x4_1+1)))=some r:=yH H hy108
   have Ny108:=aM hy108
   clear hy108
   have H':=aM H
   clear H
   obtain⟨adx1,ex1,px1,qx1,hxx1⟩:=at_T176c HR0 HB x4_1
   cases ex1
   go_wp2_with (first | (refine gB 164 20 Tryz.func164 (Xbk.calls _ _ _ _ _ _ _ A8.out) ?_;intro wx1 hb;replace HO_y1:=aQ HO_y1 hb;replace HB:=aS HB hb;clear hb;have px2:0≤(x4_1:Int):=odA;have qx2:(x4_1:Int)<((x3_1.length:Int):Int):=odA;obtain⟨gox1,cox1,eox1,gbx1,glx1,clx1,HGx1⟩:=Kd.R_form HO_y1.out (by omega);(first | cases eox1 | (injection eox1 with ea_ en_ ec_;(first | subst ea_ | (injection ea_ with ea_;subst ea_));subst ec_;clear en_));have GBx1:=aM gbx1;have GGx1:=aM HGx1;clear gbx1 glx1 HGx1;obtain⟨cex1,hclx1,hMx1,hccx1,hfrx1⟩:=Kd.R_elem HO_y1.out z140 (x4_1:Int) px2 qx2;obtain rfl:=k140_openM hMx1;have hxx4:wx1.cell? ⟨gox1,(x4_1:Int).toNat * 3,none⟩=some (.int .i64 ((rd_T140 x3_1 x4_1).f0)):=hccx1 0 _ rfl;have hxx5:wx1.cell? ⟨gox1,(x4_1:Int).toNat * 3+1,none⟩=some (.int .i64 ((rd_T140 x3_1 x4_1).f1)):=hccx1 1 _ rfl;have hxx6:wx1.cell? ⟨gox1,(x4_1:Int).toNat * 3+2,none⟩=some (.int .i64 ((rd_T140 x3_1 x4_1).f2)):=hccx1 2 _ rfl;have hfx1:wx1.frozen? ⟨gox1,(x4_1:Int).toNat * 3,none⟩=false:=hfrx1 0;have hfx2:wx1.frozen? ⟨gox1,(x4_1:Int).toNat * 3+1,none⟩=false:=hfrx1 1;have hfx3:wx1.frozen? ⟨gox1,(x4_1:Int).toNat * 3+2,none⟩=false:=hfrx1 2;clear hclx1 hccx1 hfrx1 hMx1;replace px2:=eq_true px2;replace qx2:=eq_true qx2;have HXx1:=aM (show Kd.R k140 140 wx1 w.heap.size (fun _=>True) (.slice (some ⟨gox1,0,none⟩) x3_1.length cox1) x3_1 from (rX HO_y1.out));obtain⟨cex2,hclx2,hMx2,hccx2,hfrx2⟩:=Kd.R_elem HXx1.out z140 (x4_1:Int) (odA) (by have h_:(x4_1:Int)<((x3_1.length:Int):Int):=odA;first | exact h_ | (have e_:=(Kd.R_reads' HO_y1.out).1;omega) | simpa using h_);obtain rfl:=k140_openM hMx2;have HPx1:=Kd.R_seg HXx1.out (x4_1:Int) (odA) (by have h_:(x4_1:Int)<((x3_1.length:Int):Int):=odA;first | exact h_ | (have e_:=(Kd.R_reads' HO_y1.out).1;omega) | simpa using h_) (seg:=[.int .i64 t105,.int .i64 t106,.int .i64 t107]) (j:=0) hclx2 hccx2 (show 3≤3 from by decide) (x':=(⟨t105,t106,t107⟩:S140)) (k140_mkM _ _ _ (⟨t105,t106,t107⟩:S140) ) (fun _ hk=>hk);have hxx7:=hccx2 0 _ rfl;(try simp only[show (k140).sz=3 from rfl,Nat.mul_one,Nat.add_zero] at hxx7);have hfx4:=hfrx2 0;(try simp only[show (k140).sz=3 from rfl,Nat.mul_one,Nat.add_zero] at hfx4);have hxx8:=hccx2 1 _ rfl;(try simp only[show (k140).sz=3 from rfl,Nat.mul_one,Nat.add_zero] at hxx8);have hfx5:=hfrx2 1;(try simp only[show (k140).sz=3 from rfl,Nat.mul_one,Nat.add_zero] at hfx5);have hxx9:=hccx2 2 _ rfl;(try simp only[show (k140).sz=3 from rfl,Nat.mul_one,Nat.add_zero] at hxx9);have hfx6:=hfrx2 2;(try simp only[show (k140).sz=3 from rfl,Nat.mul_one,Nat.add_zero] at hfx6);clear hclx2 hccx2 hfrx2 hMx2) | ((with_reducible refine gate_store (t:=140) (p:=21) rfl ?_);refine store_event (t:=140) (p:=21) (v:=?vo_wx2) (w1:=(((wx1.setCell ⟨gox1,(x4_1:Int).toNat * 3,none⟩ (.int .i64 t105)).setCell ⟨gox1,(x4_1:Int).toNat * 3+1,none⟩ (.int .i64 t106)).setCell ⟨gox1,(x4_1:Int).toNat * 3+2,none⟩ (.int .i64 t107))) ?hg ?ho ?hn ?hr ?_;(case ho=>rfl);(case hg=>rfl);(case hn=>rfl);(case hr=>first | (go_simp;done) | (go_simp;rfl));intro wx2 hw;have hg:wx1.grownBy wx2 (some gox1):=(by rw[hw];exact HPx1.2);have hp_:Kd.R k140 140 wx2 w.heap.size (fun _=>True) (.slice (some ⟨gox1,0,none⟩) x3_1.length cox1) y108:=(by rw[hw,Ny108.out];exact HPx1.1);clear HPx1;replace HO_y1:=aM (hp_);replace HB:=aM ((by rw[hw];exact below_set (below_set (below_set (HB.out) GBx1.out) GBx1.out) GBx1.out:Below w.heap.size w wx2));clear hg hw hp_))
   go_roundg k1
   case measure=>have:=HKy1.out;omega
   case rel=>exact⟨(y108),(wrap64 (x4_1+1)),rS,H',⟨by have:=HKy1.out;omega⟩,⟨(rX HO_y1.out)⟩,⟨(hX HB.out)⟩⟩
def XaW.f (k:Nat) (a0_0:Int) (l0_1:List Int):Option (Int × List Int):=(XO.f k l0_1).bind fun t104=>(some (a0_0,t104))
theorem XaW.calls (k:Nat) (a0_0:Int) (A0_1:Option Addr) (c0_1:Nat) (l0_1:List Int) (r1:Int) (r2:List Int) (w:World) (h0_1:Rw (Kd.int .i64) w A0_1 c0_1 l0_1) (h:XaW.f k a0_0 l0_1=some (r1,r2)) :
  Calls Tryz.prog 168 #[.agg #[.int .i64 a0_0,.slice A0_1 l0_1.length c0_1]] w fun e w'=>∃ v1_:Value,e = .returned (.agg #[.int .i64 r1,v1_])∧Kd.R (Kd.int .i64) 3 w' w.heap.size (fun _=>True) v1_ r2∧Below w.heap.size w w':=by
 have hu117:=Tryz.underlying117
 have hu71:=Tryz.underlying71
 obtain⟨HR0_1,HC0_1⟩:=h0_1
 have HB:=aM (Below.refl w.heap.size w)
 have H:=h
 unfold XaW.f at H
 clear h
 replace H:=bE H;obtain⟨t104,A2,H⟩:=H
 simp only[Option.some.injEq,Prod.mk.injEq] at H
 obtain⟨rfl,rfl⟩:=H
 go_enter Tryz.func168,Tryz.ntmps168
 go_wp2_with (first | (refine boxE 1 #[.int .i64 a0_0,.slice A0_1 l0_1.length c0_1] 117 ?_;intro gbz1 hg wz1 hbox hb;have BKz1:=aM (hbox);have GWz1:=aG hg HB;replace HB:=aS HB hb;clear hb hbox hg) | (refine boxE 2 #[.int .i64 0,.slice none 0 0] 71 ?_;intro gbz2 hg wz2 hbox hb;have BKz2:=aM (hbox);have GWz2:=aG hg HB;have NBz1:=aL hg BKz1;have NBz2:=aR hg BKz1;replace BKz1:=aB BKz1 hb;replace HB:=aS HB hb;clear hb hbox hg) | (refine boxE 3 #[.int .i64 0,.slice none 0 0] 71 ?_;intro gbz3 hg wz3 hbox hb;have BKz3:=aM (hbox);have GWz3:=aG hg HB;have NBz3:=aL hg BKz1;have NBz4:=aR hg BKz1;have NBz5:=aL hg BKz2;have NBz6:=aR hg BKz2;replace BKz1:=aB BKz1 hb;replace BKz2:=aB BKz2 hb;replace HB:=aS HB hb;clear hb hbox hg;have hnbz1:=nB NBz1 NBz2;have hnbz2:=nB NBz3 NBz4;have hczz1:=cZ2 BKz1.out;have hnbz3:=nB NBz6 NBz5;have hczz3:=cZ2 BKz3.out) | (refine goesM 47 9 Tryz.func47 #[.slice A0_1 l0_1.length c0_1] ?_;refine(XO.calls _ _ _ _ _ _ (rW HR0_1 HB HC0_1) A2.out).mono ?_;rintro e wz4 ⟨vz1,rfl,hoz1,hb⟩;refine⟨_,rfl,?_⟩;have HOz1:=aM (Kd.R_lower hoz1 (below_size (hX HB.out)));replace BKz1:=aF BKz1 hb;replace BKz2:=aF BKz2 hb;replace BKz3:=aM (blk_below (g:=gbz3) (o:=.cells #[.int .i64 a0_0,.slice none 0 0] 71 (0,0)) (bP BKz3.out) hb);replace HB:=aS HB hb;clear hb hoz1;obtain⟨Aoz1,coz1,eoz1⟩:=Kd.R_slice HOz1.out;subst eoz1;have hczz5:=cZ2 BKz3.out;have hczz7:=cZ2 BKz2.out))
 refine bodyPost_ret (results_cell_row rfl _ _ gbz2 71 #[.int .i64 a0_0,.slice Aoz1 t104.length coz1] (0,0) _ rfl (bP BKz2.out) Tryz.underlying71 rfl (by kernel_rfl)) rfl ?_
 exact⟨_,rE,(Kd.R_mono (rF2 HOz1.out BKz3.out BKz2.out) (fun _ hk=>trivial)),(hX HB.out)⟩
def XY.l0:Nat→List (S224)→List (S165)→Int→Option ((List (S165)))
 | 0,_,_,_=>none
 | k+1,x0,x3,x4=>if x4<(x0.length:Int) then (if 0≤x4 then ((Xbh.f ((rd_T224 x0 x4).f0) ((rd_T224 x0 x4).f1) ((rd_T224 x0 x4).f2)).bind fun bt105=>(if x4<(x3.length:Int) then (XY.l0 k x0 (x3.set (x4:Int).toNat (⟨bt105.1,bt105.2.1,bt105.2.2⟩:S165)) (wrap64 (x4+1))) else (none))) else (none)) else (some x3)
def XY.f (k:Nat) (l0:List (S224)):Option ((List (S165))):=if 0≤(l0.length:Int) then (if ((l0.length:Int):Int).toNat≤11728124029610 then (XY.l0 k l0 (List.replicate ((l0.length:Int):Int).toNat z165) 0) else (none)) else (none)
theorem XY.calls (k:Nat) (A0:Option Addr) (c0:Nat) (l0:List (S224)) (r:List (S165)) (w:World) (h0:Rw k224 w A0 c0 l0) (H:XY.f k l0=some r) :
  Calls Tryz.prog 205 #[.slice A0 l0.length c0] w fun e w'=>∃ v0_:Value,e = .returned (v0_)∧Kd.R k165 165 w' w.heap.size (fun _=>True) v0_ r∧Below w.heap.size w w':=by
 have hu224:=Tryz.underlying224
 have hu165:=Tryz.underlying165
 obtain⟨HR0,HC0⟩:=h0
 have HB:=aM (Below.refl w.heap.size w)
 unfold XY.f at H
 replace H:=ifP H;obtain⟨c2,H⟩:=H
 have c2b0:=eq_true c2
 have c2b1:=decide_eq_true c2
 clear c2
 replace H:=ifP H;obtain⟨c3,H⟩:=H
 have c3b0:=eq_true c3
 have c3b1:=decide_eq_true c3
 clear c3
 obtain⟨y101,hy101⟩:∃ y_:List (S165),y_=(List.replicate ((l0.length:Int):Int).toNat z165):=⟨_,rfl⟩
 replace H:(XY.l0 k l0 y101 0)=some r:=yH H hy101
 have Ny101:=aM hy101
 clear hy101
 have H':=aM H
 clear H
 go_enter Tryz.func205,Tryz.ntmps205
 go_wp2_with ((with_reducible refine gate_dst (N:=7) rfl ?_);refine Kd.R_make k165 _ 165 rfl (N:=7) rfl 160 _ _ rfl (l0.length:Int) rfl rfl Tryz.underlying160 (.agg #[(.int .i64 0),(.int .i64 0),(.int .i64 0)]) 24 info165 rfl (by decide) (by omega) z165 (ok:=fun _=>True) (okp:=fun _=>True) (k165_mkM _ _ _ z165 ) (fun _ hk=>hk) trivial (odA) (Nat.le_trans (Nat.mul_le_mul_right _ (odA:(l0.length:Int).toNat≤11728124029610)) (by omega)) (Below.refl _ _) (Nat.le_refl _) ?_;intro vz1 wz1 hoz1 hb hg_ hnew_;clear hg_ hnew_;(first | rw[← Ny101.out] at hoz1 | (simp only[Int.reduceToNat] at hoz1;rw[← Ny101.out] at hoz1));have HOz1:=aM (Kd.R_lower hoz1 (below_size (hX HB.out)));replace HB:=aS HB hb;clear hb hoz1)
 go_loopg [4] k (fun kq v4 w'=>∃ (x3_1:List (S165)) (x4_1:Int),v4 = .int .i64 x4_1∧Aside0 (XY.l0 kq l0 x3_1 x4_1=some r)∧Aside0 (kq≤k)∧Aside0 (Kd.R k165 165 w' w.heap.size (fun _=>True) vz1 x3_1)∧Aside0 (Below w.heap.size w w'))
 case atStart=>exact⟨(y101),(0),rS,H',⟨Nat.le_refl _⟩,⟨(rX HOz1.out)⟩,⟨(hX HB.out)⟩⟩
 case round =>
  clear H'
  try clear c2
  try clear c2b0
  try clear c2b1
  try clear c3
  try clear c3b0
  try clear c3b1
  obtain⟨x3_1,x4_1,rfl,HA,HKy1,HO_y1,HB⟩:=hrel
  cases gk with
  | zero=>exact absurd HA.out (by simp[XY.l0])
  | succ k1 =>
   have H:=HA.out
   clear HA
   simp only[XY.l0] at H
   revert H;refine iN ?_ ?_<;>intro c6b0 H
   ·obtain rfl:=sI H
    go_wp2
    go_ret
    exact⟨_,rE,(rX HO_y1.out),(hX HB.out)⟩
   replace H:=ifQ H;obtain⟨c7b0,H⟩:=H
   replace H:=bE H;obtain⟨⟨t105,t106,t107⟩,A8,H⟩:=H
   try dsimp only at H
   replace H:=ifQ H;obtain⟨c9b0,H⟩:=H
   obtain⟨y108,hy108⟩:∃ y_:List (S165),y_=(x3_1.set (x4_1:Int).toNat (⟨t105,t106,t107⟩:S165)):=⟨_,rfl⟩
   replace H:(XY.l0 k1 l0 y108 (wrap64 (x4_1+1)))=some r:=yH H hy108
   have Ny108:=aM hy108
   clear hy108
   have H':=aM H
   clear H
   obtain⟨adx1,ex1,px1,qx1,hxx1⟩:=at_T224c HR0 HB x4_1
   cases ex1
   go_wp2_with (first | (refine gB 219 20 Tryz.func219 (Xbh.calls _ _ _ _ _ _ _ A8.out) ?_;intro wx1 hb;replace HO_y1:=aQ HO_y1 hb;replace HB:=aS HB hb;clear hb;have px2:0≤(x4_1:Int):=odA;have qx2:(x4_1:Int)<((x3_1.length:Int):Int):=odA;obtain⟨gox1,cox1,eox1,gbx1,glx1,clx1,HGx1⟩:=Kd.R_form HO_y1.out (by omega);(first | cases eox1 | (injection eox1 with ea_ en_ ec_;(first | subst ea_ | (injection ea_ with ea_;subst ea_));subst ec_;clear en_));have GBx1:=aM gbx1;have GGx1:=aM HGx1;clear gbx1 glx1 HGx1;obtain⟨cex1,hclx1,hMx1,hccx1,hfrx1⟩:=Kd.R_elem HO_y1.out z165 (x4_1:Int) px2 qx2;obtain rfl:=k165_openM hMx1;have hxx4:wx1.cell? ⟨gox1,(x4_1:Int).toNat * 3,none⟩=some (.int .i64 ((rd_T165 x3_1 x4_1).f0)):=hccx1 0 _ rfl;have hxx5:wx1.cell? ⟨gox1,(x4_1:Int).toNat * 3+1,none⟩=some (.int .i64 ((rd_T165 x3_1 x4_1).f1)):=hccx1 1 _ rfl;have hxx6:wx1.cell? ⟨gox1,(x4_1:Int).toNat * 3+2,none⟩=some (.int .i64 ((rd_T165 x3_1 x4_1).f2)):=hccx1 2 _ rfl;have hfx1:wx1.frozen? ⟨gox1,(x4_1:Int).toNat * 3,none⟩=false:=hfrx1 0;have hfx2:wx1.frozen? ⟨gox1,(x4_1:Int).toNat * 3+1,none⟩=false:=hfrx1 1;have hfx3:wx1.frozen? ⟨gox1,(x4_1:Int).toNat * 3+2,none⟩=false:=hfrx1 2;clear hclx1 hccx1 hfrx1 hMx1;replace px2:=eq_true px2;replace qx2:=eq_true qx2;have HXx1:=aM (show Kd.R k165 165 wx1 w.heap.size (fun _=>True) (.slice (some ⟨gox1,0,none⟩) x3_1.length cox1) x3_1 from (rX HO_y1.out));obtain⟨cex2,hclx2,hMx2,hccx2,hfrx2⟩:=Kd.R_elem HXx1.out z165 (x4_1:Int) (odA) (by have h_:(x4_1:Int)<((x3_1.length:Int):Int):=odA;first | exact h_ | (have e_:=(Kd.R_reads' HO_y1.out).1;omega) | simpa using h_);obtain rfl:=k165_openM hMx2;have HPx1:=Kd.R_seg HXx1.out (x4_1:Int) (odA) (by have h_:(x4_1:Int)<((x3_1.length:Int):Int):=odA;first | exact h_ | (have e_:=(Kd.R_reads' HO_y1.out).1;omega) | simpa using h_) (seg:=[.int .i64 t105,.int .i64 t106,.int .i64 t107]) (j:=0) hclx2 hccx2 (show 3≤3 from by decide) (x':=(⟨t105,t106,t107⟩:S165)) (k165_mkM _ _ _ (⟨t105,t106,t107⟩:S165) ) (fun _ hk=>hk);have hxx7:=hccx2 0 _ rfl;(try simp only[show (k165).sz=3 from rfl,Nat.mul_one,Nat.add_zero] at hxx7);have hfx4:=hfrx2 0;(try simp only[show (k165).sz=3 from rfl,Nat.mul_one,Nat.add_zero] at hfx4);have hxx8:=hccx2 1 _ rfl;(try simp only[show (k165).sz=3 from rfl,Nat.mul_one,Nat.add_zero] at hxx8);have hfx5:=hfrx2 1;(try simp only[show (k165).sz=3 from rfl,Nat.mul_one,Nat.add_zero] at hfx5);have hxx9:=hccx2 2 _ rfl;(try simp only[show (k165).sz=3 from rfl,Nat.mul_one,Nat.add_zero] at hxx9);have hfx6:=hfrx2 2;(try simp only[show (k165).sz=3 from rfl,Nat.mul_one,Nat.add_zero] at hfx6);clear hclx2 hccx2 hfrx2 hMx2) | ((with_reducible refine gate_store (t:=165) (p:=21) rfl ?_);refine store_event (t:=165) (p:=21) (v:=?vo_wx2) (w1:=(((wx1.setCell ⟨gox1,(x4_1:Int).toNat * 3,none⟩ (.int .i64 t105)).setCell ⟨gox1,(x4_1:Int).toNat * 3+1,none⟩ (.int .i64 t106)).setCell ⟨gox1,(x4_1:Int).toNat * 3+2,none⟩ (.int .i64 t107))) ?hg ?ho ?hn ?hr ?_;(case ho=>rfl);(case hg=>rfl);(case hn=>rfl);(case hr=>first | (go_simp;done) | (go_simp;rfl));intro wx2 hw;have hg:wx1.grownBy wx2 (some gox1):=(by rw[hw];exact HPx1.2);have hp_:Kd.R k165 165 wx2 w.heap.size (fun _=>True) (.slice (some ⟨gox1,0,none⟩) x3_1.length cox1) y108:=(by rw[hw,Ny108.out];exact HPx1.1);clear HPx1;replace HO_y1:=aM (hp_);replace HB:=aM ((by rw[hw];exact below_set (below_set (below_set (HB.out) GBx1.out) GBx1.out) GBx1.out:Below w.heap.size w wx2));clear hg hw hp_))
   go_roundg k1
   case measure=>have:=HKy1.out;omega
   case rel=>exact⟨(y108),(wrap64 (x4_1+1)),rS,H',⟨by have:=HKy1.out;omega⟩,⟨(rX HO_y1.out)⟩,⟨(hX HB.out)⟩⟩
def X6.l0:Nat→List (S204)→List (S172)→Int→Option ((List (S172)))
 | 0,_,_,_=>none
 | k+1,x0,x3,x4=>if x4<(x0.length:Int) then (if 0≤x4 then ((Xbl.f ((rd_T204 x0 x4).f0) ((rd_T204 x0 x4).f1)).bind fun bt105=>(if x4<(x3.length:Int) then (X6.l0 k x0 (x3.set (x4:Int).toNat (⟨bt105.1,bt105.2⟩:S172)) (wrap64 (x4+1))) else (none))) else (none)) else (some x3)
def X6.f (k:Nat) (l0:List (S204)):Option ((List (S172))):=if 0≤(l0.length:Int) then (if ((l0.length:Int):Int).toNat≤17592186044416 then (X6.l0 k l0 (List.replicate ((l0.length:Int):Int).toNat z172) 0) else (none)) else (none)
theorem X6.calls (k:Nat) (A0:Option Addr) (c0:Nat) (l0:List (S204)) (r:List (S172)) (w:World) (h0:Rw k204 w A0 c0 l0) (H:X6.f k l0=some r) :
  Calls Tryz.prog 166 #[.slice A0 l0.length c0] w fun e w'=>∃ v0_:Value,e = .returned (v0_)∧Kd.R k172 172 w' w.heap.size (fun _=>True) v0_ r∧Below w.heap.size w w':=by
 have hu204:=Tryz.underlying204
 have hu172:=Tryz.underlying172
 obtain⟨HR0,HC0⟩:=h0
 have HB:=aM (Below.refl w.heap.size w)
 unfold X6.f at H
 replace H:=ifP H;obtain⟨c2,H⟩:=H
 have c2b0:=eq_true c2
 have c2b1:=decide_eq_true c2
 clear c2
 replace H:=ifP H;obtain⟨c3,H⟩:=H
 have c3b0:=eq_true c3
 have c3b1:=decide_eq_true c3
 clear c3
 obtain⟨y101,hy101⟩:∃ y_:List (S172),y_=(List.replicate ((l0.length:Int):Int).toNat z172):=⟨_,rfl⟩
 replace H:(X6.l0 k l0 y101 0)=some r:=yH H hy101
 have Ny101:=aM hy101
 clear hy101
 have H':=aM H
 clear H
 go_enter Tryz.func166,Tryz.ntmps166
 go_wp2_with ((with_reducible refine gate_dst (N:=7) rfl ?_);refine Kd.R_make k172 _ 172 rfl (N:=7) rfl 94 _ _ rfl (l0.length:Int) rfl rfl Tryz.underlying94 (.agg #[(.int .i64 0),(.int .i64 0)]) 16 info172 rfl (by decide) (by omega) z172 (ok:=fun _=>True) (okp:=fun _=>True) (k172_mkM _ _ _ z172 ) (fun _ hk=>hk) trivial (odA) (Nat.le_trans (Nat.mul_le_mul_right _ (odA:(l0.length:Int).toNat≤17592186044416)) (by omega)) (Below.refl _ _) (Nat.le_refl _) ?_;intro vz1 wz1 hoz1 hb hg_ hnew_;clear hg_ hnew_;(first | rw[← Ny101.out] at hoz1 | (simp only[Int.reduceToNat] at hoz1;rw[← Ny101.out] at hoz1));have HOz1:=aM (Kd.R_lower hoz1 (below_size (hX HB.out)));replace HB:=aS HB hb;clear hb hoz1)
 go_loopg [4] k (fun kq v4 w'=>∃ (x3_1:List (S172)) (x4_1:Int),v4 = .int .i64 x4_1∧Aside0 (X6.l0 kq l0 x3_1 x4_1=some r)∧Aside0 (kq≤k)∧Aside0 (Kd.R k172 172 w' w.heap.size (fun _=>True) vz1 x3_1)∧Aside0 (Below w.heap.size w w'))
 case atStart=>exact⟨(y101),(0),rS,H',⟨Nat.le_refl _⟩,⟨(rX HOz1.out)⟩,⟨(hX HB.out)⟩⟩
 case round =>
  clear H'
  try clear c2
  try clear c2b0
  try clear c2b1
  try clear c3
  try clear c3b0
  try clear c3b1
  obtain⟨x3_1,x4_1,rfl,HA,HKy1,HO_y1,HB⟩:=hrel
  cases gk with
  | zero=>exact absurd HA.out (by simp[X6.l0])
  | succ k1 =>
   have H:=HA.out
   clear HA
   simp only[X6.l0] at H
   revert H;refine iN ?_ ?_<;>intro c6b0 H
   ·obtain rfl:=sI H
    go_wp2
    go_ret
    exact⟨_,rE,(rX HO_y1.out),(hX HB.out)⟩
   replace H:=ifQ H;obtain⟨c7b0,H⟩:=H
   replace H:=bE H;obtain⟨⟨t105,t106⟩,A8,H⟩:=H
   try dsimp only at H
   replace H:=ifQ H;obtain⟨c9b0,H⟩:=H
   obtain⟨y107,hy107⟩:∃ y_:List (S172),y_=(x3_1.set (x4_1:Int).toNat (⟨t105,t106⟩:S172)):=⟨_,rfl⟩
   replace H:(X6.l0 k1 l0 y107 (wrap64 (x4_1+1)))=some r:=yH H hy107
   have Ny107:=aM hy107
   clear hy107
   have H':=aM H
   clear H
   obtain⟨adx1,ex1,px1,qx1,hxx1⟩:=at_T204c HR0 HB x4_1
   cases ex1
   go_wp2_with (first | (refine gB 206 20 Tryz.func206 (Xbl.calls _ _ _ _ _ A8.out) ?_;intro wx1 hb;replace HO_y1:=aQ HO_y1 hb;replace HB:=aS HB hb;clear hb;have px2:0≤(x4_1:Int):=odA;have qx2:(x4_1:Int)<((x3_1.length:Int):Int):=odA;obtain⟨gox1,cox1,eox1,gbx1,glx1,clx1,HGx1⟩:=Kd.R_form HO_y1.out (by omega);(first | cases eox1 | (injection eox1 with ea_ en_ ec_;(first | subst ea_ | (injection ea_ with ea_;subst ea_));subst ec_;clear en_));have GBx1:=aM gbx1;have GGx1:=aM HGx1;clear gbx1 glx1 HGx1;obtain⟨cex1,hclx1,hMx1,hccx1,hfrx1⟩:=Kd.R_elem HO_y1.out z172 (x4_1:Int) px2 qx2;obtain rfl:=k172_openM hMx1;have hxx3:wx1.cell? ⟨gox1,(x4_1:Int).toNat * 2,none⟩=some (.int .i64 ((rd_T172 x3_1 x4_1).f0)):=hccx1 0 _ rfl;have hxx4:wx1.cell? ⟨gox1,(x4_1:Int).toNat * 2+1,none⟩=some (.int .i64 ((rd_T172 x3_1 x4_1).f1)):=hccx1 1 _ rfl;have hfx1:wx1.frozen? ⟨gox1,(x4_1:Int).toNat * 2,none⟩=false:=hfrx1 0;have hfx2:wx1.frozen? ⟨gox1,(x4_1:Int).toNat * 2+1,none⟩=false:=hfrx1 1;clear hclx1 hccx1 hfrx1 hMx1;replace px2:=eq_true px2;replace qx2:=eq_true qx2;have HXx1:=aM (show Kd.R k172 172 wx1 w.heap.size (fun _=>True) (.slice (some ⟨gox1,0,none⟩) x3_1.length cox1) x3_1 from (rX HO_y1.out));obtain⟨cex2,hclx2,hMx2,hccx2,hfrx2⟩:=Kd.R_elem HXx1.out z172 (x4_1:Int) (odA) (by have h_:(x4_1:Int)<((x3_1.length:Int):Int):=odA;first | exact h_ | (have e_:=(Kd.R_reads' HO_y1.out).1;omega) | simpa using h_);obtain rfl:=k172_openM hMx2;have HPx1:=Kd.R_seg HXx1.out (x4_1:Int) (odA) (by have h_:(x4_1:Int)<((x3_1.length:Int):Int):=odA;first | exact h_ | (have e_:=(Kd.R_reads' HO_y1.out).1;omega) | simpa using h_) (seg:=[.int .i64 t105,.int .i64 t106]) (j:=0) hclx2 hccx2 (show 2≤2 from by decide) (x':=(⟨t105,t106⟩:S172)) (k172_mkM _ _ _ (⟨t105,t106⟩:S172) ) (fun _ hk=>hk);have hxx5:=hccx2 0 _ rfl;(try simp only[show (k172).sz=2 from rfl,Nat.mul_one,Nat.add_zero] at hxx5);have hfx3:=hfrx2 0;(try simp only[show (k172).sz=2 from rfl,Nat.mul_one,Nat.add_zero] at hfx3);have hxx6:=hccx2 1 _ rfl;(try simp only[show (k172).sz=2 from rfl,Nat.mul_one,Nat.add_zero] at hxx6);have hfx4:=hfrx2 1;(try simp only[show (k172).sz=2 from rfl,Nat.mul_one,Nat.add_zero] at hfx4);clear hclx2 hccx2 hfrx2 hMx2) | ((with_reducible refine gate_store (t:=172) (p:=21) rfl ?_);refine store_event (t:=172) (p:=21) (v:=?vo_wx2) (w1:=((wx1.setCell ⟨gox1,(x4_1:Int).toNat * 2,none⟩ (.int .i64 t105)).setCell ⟨gox1,(x4_1:Int).toNat * 2+1,none⟩ (.int .i64 t106))) ?hg ?ho ?hn ?hr ?_;(case ho=>rfl);(case hg=>rfl);(case hn=>rfl);(case hr=>first | (go_simp;done) | (go_simp;rfl));intro wx2 hw;have hg:wx1.grownBy wx2 (some gox1):=(by rw[hw];exact HPx1.2);have hp_:Kd.R k172 172 wx2 w.heap.size (fun _=>True) (.slice (some ⟨gox1,0,none⟩) x3_1.length cox1) y107:=(by rw[hw,Ny107.out];exact HPx1.1);clear HPx1;replace HO_y1:=aM (hp_);replace HB:=aM ((by rw[hw];exact below_set (below_set (HB.out) GBx1.out) GBx1.out:Below w.heap.size w wx2));clear hg hw hp_))
   go_roundg k1
   case measure=>have:=HKy1.out;omega
   case rel=>exact⟨(y107),(wrap64 (x4_1+1)),rS,H',⟨by have:=HKy1.out;omega⟩,⟨(rX HO_y1.out)⟩,⟨(hX HB.out)⟩⟩
def X7.l0:Nat→List (S206)→List (S174)→Int→Option ((List (S174)))
 | 0,_,_,_=>none
 | k+1,x0,x3,x4=>if x4<(x0.length:Int) then (if 0≤x4 then ((Xbm.f ((rd_T206 x0 x4).f0) ((rd_T206 x0 x4).f1) ((rd_T206 x0 x4).f2) ((rd_T206 x0 x4).f3)).bind fun bt105=>(if x4<(x3.length:Int) then (X7.l0 k x0 (x3.set (x4:Int).toNat (⟨bt105.1,bt105.2.1,bt105.2.2.1,bt105.2.2.2⟩:S174)) (wrap64 (x4+1))) else (none))) else (none)) else (some x3)
def X7.f (k:Nat) (l0:List (S206)):Option ((List (S174))):=if 0≤(l0.length:Int) then (if ((l0.length:Int):Int).toNat≤8796093022208 then (X7.l0 k l0 (List.replicate ((l0.length:Int):Int).toNat z174) 0) else (none)) else (none)
theorem X7.calls (k:Nat) (A0:Option Addr) (c0:Nat) (l0:List (S206)) (r:List (S174)) (w:World) (h0:Rw k206 w A0 c0 l0) (H:X7.f k l0=some r) :
  Calls Tryz.prog 167 #[.slice A0 l0.length c0] w fun e w'=>∃ v0_:Value,e = .returned (v0_)∧Kd.R k174 174 w' w.heap.size (fun _=>True) v0_ r∧Below w.heap.size w w':=by
 have hu206:=Tryz.underlying206
 have hu174:=Tryz.underlying174
 obtain⟨HR0,HC0⟩:=h0
 have HB:=aM (Below.refl w.heap.size w)
 unfold X7.f at H
 replace H:=ifP H;obtain⟨c2,H⟩:=H
 have c2b0:=eq_true c2
 have c2b1:=decide_eq_true c2
 clear c2
 replace H:=ifP H;obtain⟨c3,H⟩:=H
 have c3b0:=eq_true c3
 have c3b1:=decide_eq_true c3
 clear c3
 obtain⟨y101,hy101⟩:∃ y_:List (S174),y_=(List.replicate ((l0.length:Int):Int).toNat z174):=⟨_,rfl⟩
 replace H:(X7.l0 k l0 y101 0)=some r:=yH H hy101
 have Ny101:=aM hy101
 clear hy101
 have H':=aM H
 clear H
 go_enter Tryz.func167,Tryz.ntmps167
 go_wp2_with ((with_reducible refine gate_dst (N:=7) rfl ?_);refine Kd.R_make k174 _ 174 rfl (N:=7) rfl 95 _ _ rfl (l0.length:Int) rfl rfl Tryz.underlying95 (.agg #[(.int .i64 0),(.int .i64 0),(.int .i64 0),(.int .i64 0)]) 32 info174 rfl (by decide) (by omega) z174 (ok:=fun _=>True) (okp:=fun _=>True) (k174_mkM _ _ _ z174 ) (fun _ hk=>hk) trivial (odA) (Nat.le_trans (Nat.mul_le_mul_right _ (odA:(l0.length:Int).toNat≤8796093022208)) (by omega)) (Below.refl _ _) (Nat.le_refl _) ?_;intro vz1 wz1 hoz1 hb hg_ hnew_;clear hg_ hnew_;(first | rw[← Ny101.out] at hoz1 | (simp only[Int.reduceToNat] at hoz1;rw[← Ny101.out] at hoz1));have HOz1:=aM (Kd.R_lower hoz1 (below_size (hX HB.out)));replace HB:=aS HB hb;clear hb hoz1)
 go_loopg [4] k (fun kq v4 w'=>∃ (x3_1:List (S174)) (x4_1:Int),v4 = .int .i64 x4_1∧Aside0 (X7.l0 kq l0 x3_1 x4_1=some r)∧Aside0 (kq≤k)∧Aside0 (Kd.R k174 174 w' w.heap.size (fun _=>True) vz1 x3_1)∧Aside0 (Below w.heap.size w w'))
 case atStart=>exact⟨(y101),(0),rS,H',⟨Nat.le_refl _⟩,⟨(rX HOz1.out)⟩,⟨(hX HB.out)⟩⟩
 case round =>
  clear H'
  try clear c2
  try clear c2b0
  try clear c2b1
  try clear c3
  try clear c3b0
  try clear c3b1
  obtain⟨x3_1,x4_1,rfl,HA,HKy1,HO_y1,HB⟩:=hrel
  cases gk with
  | zero=>exact absurd HA.out (by simp[X7.l0])
  | succ k1 =>
   have H:=HA.out
   clear HA
   simp only[X7.l0] at H
   revert H;refine iN ?_ ?_<;>intro c6b0 H
   ·obtain rfl:=sI H
    go_wp2
    go_ret
    exact⟨_,rE,(rX HO_y1.out),(hX HB.out)⟩
   replace H:=ifQ H;obtain⟨c7b0,H⟩:=H
   replace H:=bE H;obtain⟨⟨t105,t106,t107,t108⟩,A8,H⟩:=H
   try dsimp only at H
   replace H:=ifQ H;obtain⟨c9b0,H⟩:=H
   obtain⟨y109,hy109⟩:∃ y_:List (S174),y_=(x3_1.set (x4_1:Int).toNat (⟨t105,t106,t107,t108⟩:S174)):=⟨_,rfl⟩
   replace H:(X7.l0 k1 l0 y109 (wrap64 (x4_1+1)))=some r:=yH H hy109
   have Ny109:=aM hy109
   clear hy109
   have H':=aM H
   clear H
   obtain⟨adx1,ex1,px1,qx1,hxx1⟩:=at_T206c HR0 HB x4_1
   cases ex1
   go_wp2_with (first | (refine gB 207 20 Tryz.func207 (Xbm.calls _ _ _ _ _ _ _ _ _ A8.out) ?_;intro wx1 hb;replace HO_y1:=aQ HO_y1 hb;replace HB:=aS HB hb;clear hb;have px2:0≤(x4_1:Int):=odA;have qx2:(x4_1:Int)<((x3_1.length:Int):Int):=odA;obtain⟨gox1,cox1,eox1,gbx1,glx1,clx1,HGx1⟩:=Kd.R_form HO_y1.out (by omega);(first | cases eox1 | (injection eox1 with ea_ en_ ec_;(first | subst ea_ | (injection ea_ with ea_;subst ea_));subst ec_;clear en_));have GBx1:=aM gbx1;have GGx1:=aM HGx1;clear gbx1 glx1 HGx1;obtain⟨cex1,hclx1,hMx1,hccx1,hfrx1⟩:=Kd.R_elem HO_y1.out z174 (x4_1:Int) px2 qx2;obtain rfl:=k174_openM hMx1;have hxx5:wx1.cell? ⟨gox1,(x4_1:Int).toNat * 4,none⟩=some (.int .i64 ((rd_T174 x3_1 x4_1).f0)):=hccx1 0 _ rfl;have hxx6:wx1.cell? ⟨gox1,(x4_1:Int).toNat * 4+1,none⟩=some (.int .i64 ((rd_T174 x3_1 x4_1).f1)):=hccx1 1 _ rfl;have hxx7:wx1.cell? ⟨gox1,(x4_1:Int).toNat * 4+2,none⟩=some (.int .i64 ((rd_T174 x3_1 x4_1).f2)):=hccx1 2 _ rfl;have hxx8:wx1.cell? ⟨gox1,(x4_1:Int).toNat * 4+3,none⟩=some (.int .i64 ((rd_T174 x3_1 x4_1).f3)):=hccx1 3 _ rfl;have hfx1:wx1.frozen? ⟨gox1,(x4_1:Int).toNat * 4,none⟩=false:=hfrx1 0;have hfx2:wx1.frozen? ⟨gox1,(x4_1:Int).toNat * 4+1,none⟩=false:=hfrx1 1;have hfx3:wx1.frozen? ⟨gox1,(x4_1:Int).toNat * 4+2,none⟩=false:=hfrx1 2;have hfx4:wx1.frozen? ⟨gox1,(x4_1:Int).toNat * 4+3,none⟩=false:=hfrx1 3;clear hclx1 hccx1 hfrx1 hMx1;replace px2:=eq_true px2;replace qx2:=eq_true qx2;have HXx1:=aM (show Kd.R k174 174 wx1 w.heap.size (fun _=>True) (.slice (some ⟨gox1,0,none⟩) x3_1.length cox1) x3_1 from (rX HO_y1.out));obtain⟨cex2,hclx2,hMx2,hccx2,hfrx2⟩:=Kd.R_elem HXx1.out z174 (x4_1:Int) (odA) (by have h_:(x4_1:Int)<((x3_1.length:Int):Int):=odA;first | exact h_ | (have e_:=(Kd.R_reads' HO_y1.out).1;omega) | simpa using h_);obtain rfl:=k174_openM hMx2;have HPx1:=Kd.R_seg HXx1.out (x4_1:Int) (odA) (by have h_:(x4_1:Int)<((x3_1.length:Int):Int):=odA;first | exact h_ | (have e_:=(Kd.R_reads' HO_y1.out).1;omega) | simpa using h_) (seg:=[.int .i64 t105,.int .i64 t106,.int .i64 t107,.int .i64 t108]) (j:=0) hclx2 hccx2 (show 4≤4 from by decide) (x':=(⟨t105,t106,t107,t108⟩:S174)) (k174_mkM _ _ _ (⟨t105,t106,t107,t108⟩:S174) ) (fun _ hk=>hk);have hxx9:=hccx2 0 _ rfl;(try simp only[show (k174).sz=4 from rfl,Nat.mul_one,Nat.add_zero] at hxx9);have hfx5:=hfrx2 0;(try simp only[show (k174).sz=4 from rfl,Nat.mul_one,Nat.add_zero] at hfx5);have hxx10:=hccx2 1 _ rfl;(try simp only[show (k174).sz=4 from rfl,Nat.mul_one,Nat.add_zero] at hxx10);have hfx6:=hfrx2 1;(try simp only[show (k174).sz=4 from rfl,Nat.mul_one,Nat.add_zero] at hfx6);have hxx11:=hccx2 2 _ rfl;(try simp only[show (k174).sz=4 from rfl,Nat.mul_one,Nat.add_zero] at hxx11);have hfx7:=hfrx2 2;(try simp only[show (k174).sz=4 from rfl,Nat.mul_one,Nat.add_zero] at hfx7);have hxx12:=hccx2 3 _ rfl;(try simp only[show (k174).sz=4 from rfl,Nat.mul_one,Nat.add_zero] at hxx12);have hfx8:=hfrx2 3;(try simp only[show (k174).sz=4 from rfl,Nat.mul_one,Nat.add_zero] at hfx8);clear hclx2 hccx2 hfrx2 hMx2) | ((with_reducible refine gate_store (t:=174) (p:=21) rfl ?_);refine store_event (t:=174) (p:=21) (v:=?vo_wx2) (w1:=((((wx1.setCell ⟨gox1,(x4_1:Int).toNat * 4,none⟩ (.int .i64 t105)).setCell ⟨gox1,(x4_1:Int).toNat * 4+1,none⟩ (.int .i64 t106)).setCell ⟨gox1,(x4_1:Int).toNat * 4+2,none⟩ (.int .i64 t107)).setCell ⟨gox1,(x4_1:Int).toNat * 4+3,none⟩ (.int .i64 t108))) ?hg ?ho ?hn ?hr ?_;(case ho=>rfl);(case hg=>rfl);(case hn=>rfl);(case hr=>first | (go_simp;done) | (go_simp;rfl));intro wx2 hw;have hg:wx1.grownBy wx2 (some gox1):=(by rw[hw];exact HPx1.2);have hp_:Kd.R k174 174 wx2 w.heap.size (fun _=>True) (.slice (some ⟨gox1,0,none⟩) x3_1.length cox1) y109:=(by rw[hw,Ny109.out];exact HPx1.1);clear HPx1;replace HO_y1:=aM (hp_);replace HB:=aM ((by rw[hw];exact below_set (below_set (below_set (below_set (HB.out) GBx1.out) GBx1.out) GBx1.out) GBx1.out:Below w.heap.size w wx2));clear hg hw hp_))
   go_roundg k1
   case measure=>have:=HKy1.out;omega
   case rel=>exact⟨(y109),(wrap64 (x4_1+1)),rS,H',⟨by have:=HKy1.out;omega⟩,⟨(rX HO_y1.out)⟩,⟨(hX HB.out)⟩⟩
end Go.Proofs.YtmljebgideecjaaGreat.P2
