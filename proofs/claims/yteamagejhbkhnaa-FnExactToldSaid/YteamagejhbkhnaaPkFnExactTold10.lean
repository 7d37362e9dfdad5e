/- A part of the proof of the law FnExactTold: texts of this seat, merged (words, printed functions of the program, plain lemmas). Conditions: none of its own. -/
import Derived.Test.YteamagejhbkhnaaPkFnExactTold7
set_option linter.unusedSimpArgs false
set_option linter.unusedVariables false
set_option maxHeartbeats 8000000
set_option maxRecDepth 100000
namespace Go.Proofs.Yteamagejhbkhnaa.P
open Go.Proofs.YteamagejhbkhnaaZ Go.RowKit Go.Proofs.YteamagejhbkhnaaW.PrintWords Go.Proofs.YteamagejhbkhnaaW.PrintLast Go.Proofs.YteamagejhbkhnaaW.PrintMore
attribute [local go_sem] max2_int min2_int max_two min_two max_three min_three max_four min_four   -- for this text's walks alone
def XA.l0:Nat→List (S172)→List (S170)→Int→Option ((List (S170)))
 | 0,_,_,_=>none
 | k+1,x0,x3,x4=>if x4<(x0.length:Int) then (if 0≤x4 then ((Xan.f ((rd_T172 x0 x4).f0) ((rd_T172 x0 x4).f1) ((rd_T172 x0 x4).f2)).bind fun bt105=>(if x4<(x3.length:Int) then (XA.l0 k x0 (x3.set (x4:Int).toNat (⟨bt105.1,bt105.2.1,bt105.2.2⟩:S170)) (wrap64 (x4+1))) else (none))) else (none)) else (some x3)
def XA.f (k:Nat) (l0:List (S172)):Option ((List (S170))):=if 0≤(l0.length:Int) then (if ((l0.length:Int):Int).toNat≤11728124029610 then (XA.l0 k l0 (List.replicate ((l0.length:Int):Int).toNat z170) 0) else (none)) else (none)
theorem XA.calls (k:Nat) (A0:Option Addr) (c0:Nat) (l0:List (S172)) (r:List (S170)) (w:World) (hr0:Kd.C k172 w A0 l0.length l0) (hc0:l0.length≤c0) (h:XA.f k l0=some r) :
  Calls Try.prog 141 #[.slice A0 l0.length c0] w fun e w'=>∃ v0_:Value,e = .returned (v0_)∧Kd.R k170 170 w' w.heap.size (fun _=>True) v0_ r∧Below w.heap.size w w':=by
 have hu172:=Try.underlying172
 have hu170:=Try.underlying170
 have HR0:=Aside0.mk hr0
 have HC0:=Aside0.mk hc0
 clear hr0 hc0
 have HB:=Aside0.mk (Below.refl w.heap.size w)
 have H:=h
 unfold XA.f at H
 clear h
 replace H:=ifP H;obtain⟨c2,H⟩:=H
 have c2b0:=eq_true c2
 have c2b1:=decide_eq_true c2
 clear c2
 replace H:=ifP H;obtain⟨c3,H⟩:=H
 have c3b0:=eq_true c3
 have c3b1:=decide_eq_true c3
 clear c3
 obtain⟨y101,hy101⟩:∃ y_:List (S170),y_=(List.replicate ((l0.length:Int):Int).toNat z170):=⟨_,rfl⟩
 replace H:(XA.l0 k l0 y101 0)=some r:=yH H hy101
 have Ny101:=Aside0.mk hy101
 clear hy101
 have H':=Aside0.mk H
 clear H
 go_enter Try.func141,Try.ntmps141
 go_wp2_with (first | ((with_reducible refine gate_dst (N:=7) rfl ?_);refine Kd.R_make k170 _ 170 rfl (N:=7) rfl 81 _ _ rfl (l0.length:Int) rfl rfl Try.underlying81 (.agg #[(.int .i64 0),(.int .i64 0),(.int .i64 0)]) 24 info170 rfl (by decide) (by omega) z170 (ok:=fun _=>True) (okp:=fun _=>True) (k170_mkM _ _ _ z170 ) (fun _ hk=>hk) trivial (of_decide_eq_true (by first | (with_reducible assumption) | assumption)) (Nat.le_trans (Nat.mul_le_mul_right _ (of_decide_eq_true (by first | (with_reducible assumption) | assumption):(l0.length:Int).toNat≤11728124029610)) (by omega)) (Below.refl _ _) (Nat.le_refl _) ?_;intro vz1 wz1 hoz1 hb hg_ hnew_;clear hg_ hnew_;(first | rw[← Ny101.out] at hoz1 | (simp only[Int.reduceToNat] at hoz1;rw[← Ny101.out] at hoz1));have HOz1:=Aside0.mk (Kd.R_lower hoz1 (below_size (hX HB.out)));replace HB:=Aside0.mk (below_step (hX HB.out) hb);clear hb hoz1))
 go_loopg [4] k (fun kq v4 w'=>∃ (x3_1:List (S170)) (x4_1:Int),v4 = .int .i64 x4_1∧Aside0 (XA.l0 kq l0 x3_1 x4_1=some r)∧Aside0 (kq≤k)∧Aside0 (Kd.R k170 170 w' w.heap.size (fun _=>True) vz1 x3_1)∧Aside0 (Below w.heap.size w w'))
 case atStart=>exact⟨(y101),(0),rS,H',⟨Nat.le_refl _⟩,⟨(rX HOz1.out)⟩,⟨(hX HB.out)⟩⟩
 case round =>
  clear H'
  try clear c1
  try clear c2
  try clear c2b0
  try clear c2b1
  try clear p2
  try clear c3
  try clear c3b0
  try clear c3b1
  obtain⟨x3_1,x4_1,rfl,HA,HKy1,HO_y1,HB⟩:=hrel
  cases gk with
  | zero=>exact absurd HA.out (by simp[XA.l0])
  | succ k1 =>
   have H:=HA.out
   clear HA
   simp only[XA.l0] at H
   by_cases c6:x4_1<(l0.length:Int)
   ·rw[if_pos c6] at H
    have c6b0:=decide_eq_true c6
    clear c6
    replace H:=ifP H;obtain⟨c7,H⟩:=H
    have c7b0:=decide_eq_true c7
    clear c7
    replace H:=bE H;obtain⟨⟨t105,t106,t107⟩,A8,H⟩:=H
    try dsimp only at H
    replace H:=ifP H;obtain⟨c9,H⟩:=H
    have c9b0:=decide_eq_true c9
    clear c9
    obtain⟨y108,hy108⟩:∃ y_:List (S170),y_=(x3_1.set (x4_1:Int).toNat (⟨t105,t106,t107⟩:S170)):=⟨_,rfl⟩
    replace H:(XA.l0 k1 l0 y108 (wrap64 (x4_1+1)))=some r:=yH H hy108
    have Ny108:=Aside0.mk hy108
    clear hy108
    have H':=Aside0.mk H
    clear H
    have px1:0≤(x4_1:Int):=of_decide_eq_true (by first | (with_reducible assumption) | assumption)
    have qx1:x4_1<(l0.length:Int):=of_decide_eq_true (by first | (with_reducible assumption) | assumption)
    obtain⟨adx1,ex1,hxx1,hxx2,hxx3⟩:=at_T172 HR0.out x4_1 px1 qx1
    cases ex1
    replace hxx1:=(HB.out.cell (World.block_lt_of_cell? w _ hxx1)).trans hxx1
    replace hxx2:=(HB.out.cell (World.block_lt_of_cell? w _ hxx2)).trans hxx2
    replace hxx3:=(HB.out.cell (World.block_lt_of_cell? w _ hxx3)).trans hxx3
    replace px1:=eq_true px1
    replace qx1:=eq_true qx1
    go_wp2_with (first | ((with_reducible refine gate_callee (f:=164) rfl ?_);refine goesM 164 20 Try.func164 #[.agg #[.int .i64 ((rd_T172 l0 x4_1).f0),.int .i64 ((rd_T172 l0 x4_1).f1),.int .i64 ((rd_T172 l0 x4_1).f2)]] ?_;refine(Xan.calls ((rd_T172 l0 x4_1).f0) ((rd_T172 l0 x4_1).f1) ((rd_T172 l0 x4_1).f2) t105 t106 t107 _ A8.out).mono ?_;rintro e wx1 ⟨rfl,hb⟩;refine⟨_,rfl,?_⟩;replace HO_y1:=Aside0.mk (Kd.R_below (rX HO_y1.out) hb);replace HB:=Aside0.mk (below_step (hX HB.out) hb);clear hb;have px2:0≤(x4_1:Int):=of_decide_eq_true (by first | (with_reducible assumption) | assumption);have qx2:(x4_1:Int)<((x3_1.length:Int):Int):=of_decide_eq_true (by first | (with_reducible assumption) | assumption);obtain⟨gox1,cox1,eox1,gbx1,glx1,clx1,HGx1⟩:=Kd.R_form HO_y1.out (by omega);(first | cases eox1 | (injection eox1 with ea_ en_ ec_;(first | subst ea_ | (injection ea_ with ea_;subst ea_));subst ec_;clear en_));have GBx1:=Aside0.mk gbx1;have GGx1:=Aside0.mk HGx1;clear gbx1 glx1 HGx1;obtain⟨cex1,hclx1,hMx1,hccx1,hfrx1⟩:=Kd.R_elem HO_y1.out z170 (x4_1:Int) px2 qx2;obtain rfl:=k170_openM hMx1;have hxx4:wx1.cell? ⟨gox1,(x4_1:Int).toNat * 3,none⟩=some (.int .i64 ((rd_T170 x3_1 x4_1).f0)):=hccx1 0 _ rfl;have hxx5:wx1.cell? ⟨gox1,(x4_1:Int).toNat * 3+1,none⟩=some (.int .i64 ((rd_T170 x3_1 x4_1).f1)):=hccx1 1 _ rfl;have hxx6:wx1.cell? ⟨gox1,(x4_1:Int).toNat * 3+2,none⟩=some (.int .i64 ((rd_T170 x3_1 x4_1).f2)):=hccx1 2 _ rfl;have hfx1:wx1.frozen? ⟨gox1,(x4_1:Int).toNat * 3,none⟩=false:=hfrx1 0;have hfx2:wx1.frozen? ⟨gox1,(x4_1:Int).toNat * 3+1,none⟩=false:=hfrx1 1;have hfx3:wx1.frozen? ⟨gox1,(x4_1:Int).toNat * 3+2,none⟩=false:=hfrx1 2;clear hclx1 hccx1 hfrx1 hMx1;replace px2:=eq_true px2;replace qx2:=eq_true qx2;have HXx1:=Aside0.mk (show Kd.R k170 170 wx1 w.heap.size (fun _=>True) (.slice (some ⟨gox1,0,none⟩) x3_1.length cox1) x3_1 from (rX HO_y1.out));obtain⟨cex2,hclx2,hMx2,hccx2,hfrx2⟩:=Kd.R_elem HXx1.out z170 (x4_1:Int) (of_decide_eq_true (by first | (with_reducible assumption) | assumption)) (by have h_:(x4_1:Int)<((x3_1.length:Int):Int):=of_decide_eq_true (by first | (with_reducible assumption) | assumption);first | exact h_ | (have e_:=(Kd.R_reads' HO_y1.out).1;omega) | simpa using h_);obtain rfl:=k170_openM hMx2;have HPx1:=Kd.R_seg HXx1.out (x4_1:Int) (of_decide_eq_true (by first | (with_reducible assumption) | assumption)) (by have h_:(x4_1:Int)<((x3_1.length:Int):Int):=of_decide_eq_true (by first | (with_reducible assumption) | assumption);first | exact h_ | (have e_:=(Kd.R_reads' HO_y1.out).1;omega) | simpa using h_) (seg:=[.int .i64 t105,.int .i64 t106,.int .i64 t107]) (j:=0) hclx2 hccx2 (show 3≤3 from by decide) (x':=(⟨t105,t106,t107⟩:S170)) (k170_mkM _ _ _ (⟨t105,t106,t107⟩:S170) ) (fun _ hk=>hk);have hxx7:=hccx2 0 _ rfl;(try simp only[show (k170).sz=3 from rfl,Nat.mul_one,Nat.add_zero] at hxx7);have hfx4:=hfrx2 0;(try simp only[show (k170).sz=3 from rfl,Nat.mul_one,Nat.add_zero] at hfx4);have hxx8:=hccx2 1 _ rfl;(try simp only[show (k170).sz=3 from rfl,Nat.mul_one,Nat.add_zero] at hxx8);have hfx5:=hfrx2 1;(try simp only[show (k170).sz=3 from rfl,Nat.mul_one,Nat.add_zero] at hfx5);have hxx9:=hccx2 2 _ rfl;(try simp only[show (k170).sz=3 from rfl,Nat.mul_one,Nat.add_zero] at hxx9);have hfx6:=hfrx2 2;(try simp only[show (k170).sz=3 from rfl,Nat.mul_one,Nat.add_zero] at hfx6);clear hclx2 hccx2 hfrx2 hMx2) | ((with_reducible refine gate_store (t:=170) (p:=21) rfl ?_);refine store_event (t:=170) (p:=21) (v:=?vo_wx2) (w1:=(((wx1.setCell ⟨gox1,(x4_1:Int).toNat * 3,none⟩ (.int .i64 t105)).setCell ⟨gox1,(x4_1:Int).toNat * 3+1,none⟩ (.int .i64 t106)).setCell ⟨gox1,(x4_1:Int).toNat * 3+2,none⟩ (.int .i64 t107))) ?hg ?ho ?hn ?hr ?_;(case ho=>rfl);(case hg=>rfl);(case hn=>rfl);(case hr=>first | (go_simp;done) | (go_simp;rfl));intro wx2 hw;have hg:wx1.grownBy wx2 (some gox1):=(by rw[hw];exact HPx1.2);have hp_:Kd.R k170 170 wx2 w.heap.size (fun _=>True) (.slice (some ⟨gox1,0,none⟩) x3_1.length cox1) y108:=(by rw[hw,Ny108.out];exact HPx1.1);clear HPx1;replace HO_y1:=Aside0.mk (hp_);replace HB:=Aside0.mk ((by rw[hw];exact below_set (below_set (below_set (HB.out) GBx1.out) GBx1.out) GBx1.out:Below w.heap.size w wx2));clear hg hw hp_))
    go_roundg k1
    case measure=>have:=HKy1.out;omega
    case rel=>exact⟨(y108),(wrap64 (x4_1+1)),rS,H',⟨by have:=HKy1.out;omega⟩,⟨(rX HO_y1.out)⟩,⟨(hX HB.out)⟩⟩
   ·rw[if_neg c6] at H
    have c6b0:=decide_eq_false c6
    clear c6
    obtain rfl:=Option.some.inj H
    go_wp2
    go_ret
    exact⟨_,rE,(rX HO_y1.out),(hX HB.out)⟩
def XZ.f (k:Nat) (a0_0:Int) (l0_1:List Int):Option (Int × List Int):=(Xq.f k l0_1).bind fun t104=>(some (a0_0,t104))
theorem XZ.calls (k:Nat) (a0_0:Int) (A0_1:Option Addr) (c0_1:Nat) (l0_1:List Int) (r1:Int) (r2:List Int) (w:World) (hr0_1:Kd.C (Kd.int .i64) w A0_1 l0_1.length l0_1) (hc0_1:l0_1.length≤c0_1) (h:XZ.f k a0_0 l0_1=some (r1,r2)) :
  Calls Try.prog 104 #[.agg #[.int .i64 a0_0,.slice A0_1 l0_1.length c0_1]] w fun e w'=>∃ v1_:Value,e = .returned (.agg #[.int .i64 r1,v1_])∧Kd.R (Kd.int .i64) 3 w' w.heap.size (fun _=>True) v1_ r2∧Below w.heap.size w w':=by
 have hu51:=Try.underlying51
 have hu57:=Try.underlying57
 have HR0_1:=Aside0.mk hr0_1
 have HC0_1:=Aside0.mk hc0_1
 clear hr0_1 hc0_1
 have HB:=Aside0.mk (Below.refl w.heap.size w)
 have H:=h
 unfold XZ.f at H
 clear h
 replace H:=bE H;obtain⟨t104,A2,H⟩:=H
 simp only[Option.some.injEq,Prod.mk.injEq] at H
 obtain⟨rfl,rfl⟩:=H
 go_enter Try.func104,Try.ntmps104
 go_wp2_with (first | ((with_reducible refine gate_dst (N:=1) rfl ?_);refine boxE 1 #[.int .i64 a0_0,.slice A0_1 l0_1.length c0_1] 51 ?_;intro gbz1 hg wz1 hbox hb;have BKz1:=Aside0.mk (hbox);have GWz1:=Aside0.mk (gX' hg (hX HB.out));have GEz1:=Aside0.mk (gX' hg (hX HB.out));replace HB:=Aside0.mk (below_step (hX HB.out) hb);clear hb hbox hg) | ((with_reducible refine gate_dst (N:=2) rfl ?_);refine boxE 2 #[.int .i64 0,.slice none 0 0] 57 ?_;intro gbz2 hg wz2 hbox hb;have BKz2:=Aside0.mk (hbox);have GWz2:=Aside0.mk (gX' hg (hX HB.out));have GEz2:=Aside0.mk (gX' hg (hX HB.out));have NBz1:=Aside0.mk (gL hg (bX BKz1.out));have NBz2:=Aside0.mk (gG hg (bX BKz1.out));replace BKz1:=Aside0.mk (blk_below (bX BKz1.out) hb);replace HB:=Aside0.mk (below_step (hX HB.out) hb);clear hb hbox hg) | ((with_reducible refine gate_dst (N:=3) rfl ?_);refine boxE 3 #[.int .i64 0,.slice none 0 0] 57 ?_;intro gbz3 hg wz3 hbox hb;have BKz3:=Aside0.mk (hbox);have GWz3:=Aside0.mk (gX' hg (hX HB.out));have GEz3:=Aside0.mk (gX' hg (hX HB.out));have NBz3:=Aside0.mk (gL hg (bX BKz1.out));have NBz4:=Aside0.mk (gG hg (bX BKz1.out));have NBz5:=Aside0.mk (gL hg (bX BKz2.out));have NBz6:=Aside0.mk (gG hg (bX BKz2.out));replace BKz1:=Aside0.mk (blk_below (bX BKz1.out) hb);replace BKz2:=Aside0.mk (blk_below (bX BKz2.out) hb);replace HB:=Aside0.mk (below_step (hX HB.out) hb);clear hb hbox hg;have hnbz1:=NBz1.out;have hncz1:=NBz2.out;have hnbz2:=NBz3.out;have hncz2:=NBz4.out;obtain⟨hczz1,hczz2,hfzz1,hfzz2⟩:=cZ2 BKz1.out;have hnbz3:=NBz6.out;have hncz3:=NBz5.out;obtain⟨hczz3,hczz4,hfzz3,hfzz4⟩:=cZ2 BKz3.out) | ((with_reducible refine gate_callee (f:=14) rfl ?_);refine goesM 14 9 Try.func14 #[.slice A0_1 l0_1.length c0_1] ?_;refine(Xq.calls k _ _ l0_1 t104 _ (by exact Kd.C_below HR0_1.out (hX HB.out)) HC0_1.out A2.out).mono ?_;rintro e wz4 ⟨vz1,rfl,hoz1,hb⟩;refine⟨_,rfl,?_⟩;have HOz1:=Aside0.mk (Kd.R_lower hoz1 (below_size (hX HB.out)));replace BKz1:=Aside0.mk (blk_below (bF BKz1.out) hb);replace BKz2:=Aside0.mk (blk_below (bF BKz2.out) hb);replace BKz3:=Aside0.mk (blk_below (g:=gbz3) (o:=.cells #[.int .i64 a0_0,.slice none 0 0] 57 (0,0)) (bP BKz3.out) hb);replace HB:=Aside0.mk (below_step (hX HB.out) hb);clear hb hoz1;obtain⟨Aoz1,coz1,eoz1⟩:=Kd.R_slice HOz1.out;subst eoz1;obtain⟨hczz5,hczz6,hfzz5,hfzz6⟩:=cZ2 BKz3.out;obtain⟨hczz7,hczz8,hfzz7,hfzz8⟩:=cZ2 BKz2.out))
 refine bodyPost_ret (results_cell_row rfl _ _ gbz2 57 #[.int .i64 a0_0,.slice Aoz1 t104.length coz1] (0,0) _ rfl (bP BKz2.out) Try.underlying57 rfl (by kernel_rfl)) rfl ?_
 exact⟨_,rE,(rT (h:=by exact Kd.R_mono (Kd.R_far (p:=⟨gbz2,1,none⟩) (Kd.R_far (p:=⟨gbz2,0,none⟩) (Kd.R_far (p:=⟨gbz3,1,none⟩) (Kd.R_types (Kd.R_types HOz1.out BKz3.out (by decide)) BKz2.out (by decide)) (fun _ hk=>hk.1.2) (.slice Aoz1 t104.length coz1)) (fun _ hk=>hk.2) (.int .i64 a0_0)) (fun _ hk=>hk.2) (.slice Aoz1 t104.length coz1)) (fun _ hk=>trivial))),(hX HB.out)⟩
def Xt.l0:Nat→List (S202)→List (S200)→Int→Option ((List (S200)))
 | 0,_,_,_=>none
 | k+1,x0,x3,x4=>if x4<(x0.length:Int) then (if 0≤x4 then ((Xak.f ((rd_T202 x0 x4).f0) ((rd_T202 x0 x4).f1) ((rd_T202 x0 x4).f2)).bind fun bt105=>(if x4<(x3.length:Int) then (Xt.l0 k x0 (x3.set (x4:Int).toNat (⟨bt105.1,bt105.2.1,bt105.2.2⟩:S200)) (wrap64 (x4+1))) else (none))) else (none)) else (some x3)
def Xt.f (k:Nat) (l0:List (S202)):Option ((List (S200))):=if 0≤(l0.length:Int) then (if ((l0.length:Int):Int).toNat≤11728124029610 then (Xt.l0 k l0 (List.replicate ((l0.length:Int):Int).toNat z200) 0) else (none)) else (none)
theorem Xt.calls (k:Nat) (A0:Option Addr) (c0:Nat) (l0:List (S202)) (r:List (S200)) (w:World) (hr0:Kd.C k202 w A0 l0.length l0) (hc0:l0.length≤c0) (h:Xt.f k l0=some r) :
  Calls Try.prog 179 #[.slice A0 l0.length c0] w fun e w'=>∃ v0_:Value,e = .returned (v0_)∧Kd.R k200 200 w' w.heap.size (fun _=>True) v0_ r∧Below w.heap.size w w':=by
 have hu202:=Try.underlying202
 have hu200:=Try.underlying200
 have HR0:=Aside0.mk hr0
 have HC0:=Aside0.mk hc0
 clear hr0 hc0
 have HB:=Aside0.mk (Below.refl w.heap.size w)
 have H:=h
 unfold Xt.f at H
 clear h
 replace H:=ifP H;obtain⟨c2,H⟩:=H
 have c2b0:=eq_true c2
 have c2b1:=decide_eq_true c2
 clear c2
 replace H:=ifP H;obtain⟨c3,H⟩:=H
 have c3b0:=eq_true c3
 have c3b1:=decide_eq_true c3
 clear c3
 obtain⟨y101,hy101⟩:∃ y_:List (S200),y_=(List.replicate ((l0.length:Int):Int).toNat z200):=⟨_,rfl⟩
 replace H:(Xt.l0 k l0 y101 0)=some r:=yH H hy101
 have Ny101:=Aside0.mk hy101
 clear hy101
 have H':=Aside0.mk H
 clear H
 go_enter Try.func179,Try.ntmps179
 go_wp2_with (first | ((with_reducible refine gate_dst (N:=7) rfl ?_);refine Kd.R_make k200 _ 200 rfl (N:=7) rfl 173 _ _ rfl (l0.length:Int) rfl rfl Try.underlying173 (.agg #[(.int .i64 0),(.int .i64 0),(.int .i64 0)]) 24 info200 rfl (by decide) (by omega) z200 (ok:=fun _=>True) (okp:=fun _=>True) (k200_mkM _ _ _ z200 ) (fun _ hk=>hk) trivial (of_decide_eq_true (by first | (with_reducible assumption) | assumption)) (Nat.le_trans (Nat.mul_le_mul_right _ (of_decide_eq_true (by first | (with_reducible assumption) | assumption):(l0.length:Int).toNat≤11728124029610)) (by omega)) (Below.refl _ _) (Nat.le_refl _) ?_;intro vz1 wz1 hoz1 hb hg_ hnew_;clear hg_ hnew_;(first | rw[← Ny101.out] at hoz1 | (simp only[Int.reduceToNat] at hoz1;rw[← Ny101.out] at hoz1));have HOz1:=Aside0.mk (Kd.R_lower hoz1 (below_size (hX HB.out)));replace HB:=Aside0.mk (below_step (hX HB.out) hb);clear hb hoz1))
 go_loopg [4] k (fun kq v4 w'=>∃ (x3_1:List (S200)) (x4_1:Int),v4 = .int .i64 x4_1∧Aside0 (Xt.l0 kq l0 x3_1 x4_1=some r)∧Aside0 (kq≤k)∧Aside0 (Kd.R k200 200 w' w.heap.size (fun _=>True) vz1 x3_1)∧Aside0 (Below w.heap.size w w'))
 case atStart=>exact⟨(y101),(0),rS,H',⟨Nat.le_refl _⟩,⟨(rX HOz1.out)⟩,⟨(hX HB.out)⟩⟩
 case round =>
  clear H'
  try clear c1
  try clear c2
  try clear c2b0
  try clear c2b1
  try clear p2
  try clear c3
  try clear c3b0
  try clear c3b1
  obtain⟨x3_1,x4_1,rfl,HA,HKy1,HO_y1,HB⟩:=hrel
  cases gk with
  | zero=>exact absurd HA.out (by simp[Xt.l0])
  | succ k1 =>
   have H:=HA.out
   clear HA
   simp only[Xt.l0] at H
   by_cases c6:x4_1<(l0.length:Int)
   ·rw[if_pos c6] at H
    have c6b0:=decide_eq_true c6
    clear c6
    replace H:=ifP H;obtain⟨c7,H⟩:=H
    have c7b0:=decide_eq_true c7
    clear c7
    replace H:=bE H;obtain⟨⟨t105,t106,t107⟩,A8,H⟩:=H
    try dsimp only at H
    replace H:=ifP H;obtain⟨c9,H⟩:=H
    have c9b0:=decide_eq_true c9
    clear c9
    obtain⟨y108,hy108⟩:∃ y_:List (S200),y_=(x3_1.set (x4_1:Int).toNat (⟨t105,t106,t107⟩:S200)):=⟨_,rfl⟩
    replace H:(Xt.l0 k1 l0 y108 (wrap64 (x4_1+1)))=some r:=yH H hy108
    have Ny108:=Aside0.mk hy108
    clear hy108
    have H':=Aside0.mk H
    clear H
    have px1:0≤(x4_1:Int):=of_decide_eq_true (by first | (with_reducible assumption) | assumption)
    have qx1:x4_1<(l0.length:Int):=of_decide_eq_true (by first | (with_reducible assumption) | assumption)
    obtain⟨adx1,ex1,hxx1,hxx2,hxx3⟩:=at_T202 HR0.out x4_1 px1 qx1
    cases ex1
    replace hxx1:=(HB.out.cell (World.block_lt_of_cell? w _ hxx1)).trans hxx1
    replace hxx2:=(HB.out.cell (World.block_lt_of_cell? w _ hxx2)).trans hxx2
    replace hxx3:=(HB.out.cell (World.block_lt_of_cell? w _ hxx3)).trans hxx3
    replace px1:=eq_true px1
    replace qx1:=eq_true qx1
    go_wp2_with (first | ((with_reducible refine gate_callee (f:=185) rfl ?_);refine goesM 185 20 Try.func185 #[.agg #[.int .i64 ((rd_T202 l0 x4_1).f0),.int .i64 ((rd_T202 l0 x4_1).f1),.int .i64 ((rd_T202 l0 x4_1).f2)]] ?_;refine(Xak.calls ((rd_T202 l0 x4_1).f0) ((rd_T202 l0 x4_1).f1) ((rd_T202 l0 x4_1).f2) t105 t106 t107 _ A8.out).mono ?_;rintro e wx1 ⟨rfl,hb⟩;refine⟨_,rfl,?_⟩;replace HO_y1:=Aside0.mk (Kd.R_below (rX HO_y1.out) hb);replace HB:=Aside0.mk (below_step (hX HB.out) hb);clear hb;have px2:0≤(x4_1:Int):=of_decide_eq_true (by first | (with_reducible assumption) | assumption);have qx2:(x4_1:Int)<((x3_1.length:Int):Int):=of_decide_eq_true (by first | (with_reducible assumption) | assumption);obtain⟨gox1,cox1,eox1,gbx1,glx1,clx1,HGx1⟩:=Kd.R_form HO_y1.out (by omega);(first | cases eox1 | (injection eox1 with ea_ en_ ec_;(first | subst ea_ | (injection ea_ with ea_;subst ea_));subst ec_;clear en_));have GBx1:=Aside0.mk gbx1;have GGx1:=Aside0.mk HGx1;clear gbx1 glx1 HGx1;obtain⟨cex1,hclx1,hMx1,hccx1,hfrx1⟩:=Kd.R_elem HO_y1.out z200 (x4_1:Int) px2 qx2;obtain rfl:=k200_openM hMx1;have hxx4:wx1.cell? ⟨gox1,(x4_1:Int).toNat * 3,none⟩=some (.int .i64 ((rd_T200 x3_1 x4_1).f0)):=hccx1 0 _ rfl;have hxx5:wx1.cell? ⟨gox1,(x4_1:Int).toNat * 3+1,none⟩=some (.int .i64 ((rd_T200 x3_1 x4_1).f1)):=hccx1 1 _ rfl;have hxx6:wx1.cell? ⟨gox1,(x4_1:Int).toNat * 3+2,none⟩=some (.int .i64 ((rd_T200 x3_1 x4_1).f2)):=hccx1 2 _ rfl;have hfx1:wx1.frozen? ⟨gox1,(x4_1:Int).toNat * 3,none⟩=false:=hfrx1 0;have hfx2:wx1.frozen? ⟨gox1,(x4_1:Int).toNat * 3+1,none⟩=false:=hfrx1 1;have hfx3:wx1.frozen? ⟨gox1,(x4_1:Int).toNat * 3+2,none⟩=false:=hfrx1 2;clear hclx1 hccx1 hfrx1 hMx1;replace px2:=eq_true px2;replace qx2:=eq_true qx2;have HXx1:=Aside0.mk (show Kd.R k200 200 wx1 w.heap.size (fun _=>True) (.slice (some ⟨gox1,0,none⟩) x3_1.length cox1) x3_1 from (rX HO_y1.out));obtain⟨cex2,hclx2,hMx2,hccx2,hfrx2⟩:=Kd.R_elem HXx1.out z200 (x4_1:Int) (of_decide_eq_true (by first | (with_reducible assumption) | assumption)) (by have h_:(x4_1:Int)<((x3_1.length:Int):Int):=of_decide_eq_true (by first | (with_reducible assumption) | assumption);first | exact h_ | (have e_:=(Kd.R_reads' HO_y1.out).1;omega) | simpa using h_);obtain rfl:=k200_openM hMx2;have HPx1:=Kd.R_seg HXx1.out (x4_1:Int) (of_decide_eq_true (by first | (with_reducible assumption) | assumption)) (by have h_:(x4_1:Int)<((x3_1.length:Int):Int):=of_decide_eq_true (by first | (with_reducible assumption) | assumption);first | exact h_ | (have e_:=(Kd.R_reads' HO_y1.out).1;omega) | simpa using h_) (seg:=[.int .i64 t105,.int .i64 t106,.int .i64 t107]) (j:=0) hclx2 hccx2 (show 3≤3 from by decide) (x':=(⟨t105,t106,t107⟩:S200)) (k200_mkM _ _ _ (⟨t105,t106,t107⟩:S200) ) (fun _ hk=>hk);have hxx7:=hccx2 0 _ rfl;(try simp only[show (k200).sz=3 from rfl,Nat.mul_one,Nat.add_zero] at hxx7);have hfx4:=hfrx2 0;(try simp only[show (k200).sz=3 from rfl,Nat.mul_one,Nat.add_zero] at hfx4);have hxx8:=hccx2 1 _ rfl;(try simp only[show (k200).sz=3 from rfl,Nat.mul_one,Nat.add_zero] at hxx8);have hfx5:=hfrx2 1;(try simp only[show (k200).sz=3 from rfl,Nat.mul_one,Nat.add_zero] at hfx5);have hxx9:=hccx2 2 _ rfl;(try simp only[show (k200).sz=3 from rfl,Nat.mul_one,Nat.add_zero] at hxx9);have hfx6:=hfrx2 2;(try simp only[show (k200).sz=3 from rfl,Nat.mul_one,Nat.add_zero] at hfx6);clear hclx2 hccx2 hfrx2 hMx2) | ((with_reducible refine gate_store (t:=200) (p:=21) rfl ?_);refine store_event (t:=200) (p:=21) (v:=?vo_wx2) (w1:=(((wx1.setCell ⟨gox1,(x4_1:Int).toNat * 3,none⟩ (.int .i64 t105)).setCell ⟨gox1,(x4_1:Int).toNat * 3+1,none⟩ (.int .i64 t106)).setCell ⟨gox1,(x4_1:Int).toNat * 3+2,none⟩ (.int .i64 t107))) ?hg ?ho ?hn ?hr ?_;(case ho=>rfl);(case hg=>rfl);(case hn=>rfl);(case hr=>first | (go_simp;done) | (go_simp;rfl));intro wx2 hw;have hg:wx1.grownBy wx2 (some gox1):=(by rw[hw];exact HPx1.2);have hp_:Kd.R k200 200 wx2 w.heap.size (fun _=>True) (.slice (some ⟨gox1,0,none⟩) x3_1.length cox1) y108:=(by rw[hw,Ny108.out];exact HPx1.1);clear HPx1;replace HO_y1:=Aside0.mk (hp_);replace HB:=Aside0.mk ((by rw[hw];exact below_set (below_set (below_set (HB.out) GBx1.out) GBx1.out) GBx1.out:Below w.heap.size w wx2));clear hg hw hp_))
    go_roundg k1
    case measure=>have:=HKy1.out;omega
    case rel=>exact⟨(y108),(wrap64 (x4_1+1)),rS,H',⟨by have:=HKy1.out;omega⟩,⟨(rX HO_y1.out)⟩,⟨(hX HB.out)⟩⟩
   ·rw[if_neg c6] at H
    have c6b0:=decide_eq_false c6
    clear c6
    obtain rfl:=Option.some.inj H
    go_wp2
    go_ret
    exact⟨_,rE,(rX HO_y1.out),(hX HB.out)⟩
def XK.l0:Nat→List (S49)→List (S56)→Int→Option ((List (S56)))
 | 0,_,_,_=>none
 | k+1,x0,x3,x4=>if x4<(x0.length:Int) then (if 0≤x4 then ((X8.f ((rd_T49 x0 x4).f0) ((rd_T49 x0 x4).f1) ((rd_T49 x0 x4).f2)).bind fun bt105=>(if x4<(x3.length:Int) then (XK.l0 k x0 (x3.set (x4:Int).toNat (⟨bt105.1,bt105.2.1,bt105.2.2⟩:S56)) (wrap64 (x4+1))) else (none))) else (none)) else (some x3)
def XK.f (k:Nat) (l0:List (S49)):Option ((List (S56))):=if 0≤(l0.length:Int) then (if ((l0.length:Int):Int).toNat≤11728124029610 then (XK.l0 k l0 (List.replicate ((l0.length:Int):Int).toNat z56) 0) else (none)) else (none)
theorem XK.calls (k:Nat) (A0:Option Addr) (c0:Nat) (l0:List (S49)) (r:List (S56)) (w:World) (hr0:Kd.C k49 w A0 l0.length l0) (hc0:l0.length≤c0) (h:XK.f k l0=some r) :
  Calls Try.prog 166 #[.slice A0 l0.length c0] w fun e w'=>∃ v0_:Value,e = .returned (v0_)∧Kd.R k56 56 w' w.heap.size (fun _=>True) v0_ r∧Below w.heap.size w w':=by
 have hu49:=Try.underlying49
 have hu56:=Try.underlying56
 have HR0:=Aside0.mk hr0
 have HC0:=Aside0.mk hc0
 clear hr0 hc0
 have HB:=Aside0.mk (Below.refl w.heap.size w)
 have H:=h
 unfold XK.f at H
 clear h
 replace H:=ifP H;obtain⟨c2,H⟩:=H
 have c2b0:=eq_true c2
 have c2b1:=decide_eq_true c2
 clear c2
 replace H:=ifP H;obtain⟨c3,H⟩:=H
 have c3b0:=eq_true c3
 have c3b1:=decide_eq_true c3
 clear c3
 obtain⟨y101,hy101⟩:∃ y_:List (S56),y_=(List.replicate ((l0.length:Int):Int).toNat z56):=⟨_,rfl⟩
 replace H:(XK.l0 k l0 y101 0)=some r:=yH H hy101
 have Ny101:=Aside0.mk hy101
 clear hy101
 have H':=Aside0.mk H
 clear H
 go_enter Try.func166,Try.ntmps166
 go_wp2_with (first | ((with_reducible refine gate_dst (N:=7) rfl ?_);refine Kd.R_make k56 _ 56 rfl (N:=7) rfl 142 _ _ rfl (l0.length:Int) rfl rfl Try.underlying142 (.agg #[(.int .i64 0),(.int .i64 0),(.int .i64 0)]) 24 info56 rfl (by decide) (by omega) z56 (ok:=fun _=>True) (okp:=fun _=>True) (k56_mkM _ _ _ z56 ) (fun _ hk=>hk) trivial (of_decide_eq_true (by first | (with_reducible assumption) | assumption)) (Nat.le_trans (Nat.mul_le_mul_right _ (of_decide_eq_true (by first | (with_reducible assumption) | assumption):(l0.length:Int).toNat≤11728124029610)) (by omega)) (Below.refl _ _) (Nat.le_refl _) ?_;intro vz1 wz1 hoz1 hb hg_ hnew_;clear hg_ hnew_;(first | rw[← Ny101.out] at hoz1 | (simp only[Int.reduceToNat] at hoz1;rw[← Ny101.out] at hoz1));have HOz1:=Aside0.mk (Kd.R_lower hoz1 (below_size (hX HB.out)));replace HB:=Aside0.mk (below_step (hX HB.out) hb);clear hb hoz1))
 go_loopg [4] k (fun kq v4 w'=>∃ (x3_1:List (S56)) (x4_1:Int),v4 = .int .i64 x4_1∧Aside0 (XK.l0 kq l0 x3_1 x4_1=some r)∧Aside0 (kq≤k)∧Aside0 (Kd.R k56 56 w' w.heap.size (fun _=>True) vz1 x3_1)∧Aside0 (Below w.heap.size w w'))
 case atStart=>exact⟨(y101),(0),rS,H',⟨Nat.le_refl _⟩,⟨(rX HOz1.out)⟩,⟨(hX HB.out)⟩⟩
 case round =>
  clear H'
  try clear c1
  try clear c2
  try clear c2b0
  try clear c2b1
  try clear p2
  try clear c3
  try clear c3b0
  try clear c3b1
  obtain⟨x3_1,x4_1,rfl,HA,HKy1,HO_y1,HB⟩:=hrel
  cases gk with
  | zero=>exact absurd HA.out (by simp[XK.l0])
  | succ k1 =>
   have H:=HA.out
   clear HA
   simp only[XK.l0] at H
   by_cases c6:x4_1<(l0.length:Int)
   ·rw[if_pos c6] at H
    have c6b0:=decide_eq_true c6
    clear c6
    replace H:=ifP H;obtain⟨c7,H⟩:=H
    have c7b0:=decide_eq_true c7
    clear c7
    replace H:=bE H;obtain⟨⟨t105,t106,t107⟩,A8,H⟩:=H
    try dsimp only at H
    replace H:=ifP H;obtain⟨c9,H⟩:=H
    have c9b0:=decide_eq_true c9
    clear c9
    obtain⟨y108,hy108⟩:∃ y_:List (S56),y_=(x3_1.set (x4_1:Int).toNat (⟨t105,t106,t107⟩:S56)):=⟨_,rfl⟩
    replace H:(XK.l0 k1 l0 y108 (wrap64 (x4_1+1)))=some r:=yH H hy108
    have Ny108:=Aside0.mk hy108
    clear hy108
    have H':=Aside0.mk H
    clear H
    have px1:0≤(x4_1:Int):=of_decide_eq_true (by first | (with_reducible assumption) | assumption)
    have qx1:x4_1<(l0.length:Int):=of_decide_eq_true (by first | (with_reducible assumption) | assumption)
    obtain⟨adx1,ex1,hxx1,hxx2,hxx3⟩:=at_T49 HR0.out x4_1 px1 qx1
    cases ex1
    replace hxx1:=(HB.out.cell (World.block_lt_of_cell? w _ hxx1)).trans hxx1
    replace hxx2:=(HB.out.cell (World.block_lt_of_cell? w _ hxx2)).trans hxx2
    replace hxx3:=(HB.out.cell (World.block_lt_of_cell? w _ hxx3)).trans hxx3
    replace px1:=eq_true px1
    replace qx1:=eq_true qx1
    go_wp2_with (first | ((with_reducible refine gate_callee (f:=103) rfl ?_);refine goesM 103 20 Try.func103 #[.agg #[.int .i64 ((rd_T49 l0 x4_1).f0),.int .i64 ((rd_T49 l0 x4_1).f1),.int .i64 ((rd_T49 l0 x4_1).f2)]] ?_;refine(X8.calls ((rd_T49 l0 x4_1).f0) ((rd_T49 l0 x4_1).f1) ((rd_T49 l0 x4_1).f2) t105 t106 t107 _ A8.out).mono ?_;rintro e wx1 ⟨rfl,hb⟩;refine⟨_,rfl,?_⟩;replace HO_y1:=Aside0.mk (Kd.R_below (rX HO_y1.out) hb);replace HB:=Aside0.mk (below_step (hX HB.out) hb);clear hb;have px2:0≤(x4_1:Int):=of_decide_eq_true (by first | (with_reducible assumption) | assumption);have qx2:(x4_1:Int)<((x3_1.length:Int):Int):=of_decide_eq_true (by first | (with_reducible assumption) | assumption);obtain⟨gox1,cox1,eox1,gbx1,glx1,clx1,HGx1⟩:=Kd.R_form HO_y1.out (by omega);(first | cases eox1 | (injection eox1 with ea_ en_ ec_;(first | subst ea_ | (injection ea_ with ea_;subst ea_));subst ec_;clear en_));have GBx1:=Aside0.mk gbx1;have GGx1:=Aside0.mk HGx1;clear gbx1 glx1 HGx1;obtain⟨cex1,hclx1,hMx1,hccx1,hfrx1⟩:=Kd.R_elem HO_y1.out z56 (x4_1:Int) px2 qx2;obtain rfl:=k56_openM hMx1;have hxx4:wx1.cell? ⟨gox1,(x4_1:Int).toNat * 3,none⟩=some (.int .i64 ((rd_T56 x3_1 x4_1).f0)):=hccx1 0 _ rfl;have hxx5:wx1.cell? ⟨gox1,(x4_1:Int).toNat * 3+1,none⟩=some (.int .i64 ((rd_T56 x3_1 x4_1).f1)):=hccx1 1 _ rfl;have hxx6:wx1.cell? ⟨gox1,(x4_1:Int).toNat * 3+2,none⟩=some (.int .i64 ((rd_T56 x3_1 x4_1).f2)):=hccx1 2 _ rfl;have hfx1:wx1.frozen? ⟨gox1,(x4_1:Int).toNat * 3,none⟩=false:=hfrx1 0;have hfx2:wx1.frozen? ⟨gox1,(x4_1:Int).toNat * 3+1,none⟩=false:=hfrx1 1;have hfx3:wx1.frozen? ⟨gox1,(x4_1:Int).toNat * 3+2,none⟩=false:=hfrx1 2;clear hclx1 hccx1 hfrx1 hMx1;replace px2:=eq_true px2;replace qx2:=eq_true qx2;have HXx1:=Aside0.mk (show Kd.R k56 56 wx1 w.heap.size (fun _=>True) (.slice (some ⟨gox1,0,none⟩) x3_1.length cox1) x3_1 from (rX HO_y1.out));obtain⟨cex2,hclx2,hMx2,hccx2,hfrx2⟩:=Kd.R_elem HXx1.out z56 (x4_1:Int) (of_decide_eq_true (by first | (with_reducible assumption) | assumption)) (by have h_:(x4_1:Int)<((x3_1.length:Int):Int):=of_decide_eq_true (by first | (with_reducible assumption) | assumption);first | exact h_ | (have e_:=(Kd.R_reads' HO_y1.out).1;omega) | simpa using h_);obtain rfl:=k56_openM hMx2;have HPx1:=Kd.R_seg HXx1.out (x4_1:Int) (of_decide_eq_true (by first | (with_reducible assumption) | assumption)) (by have h_:(x4_1:Int)<((x3_1.length:Int):Int):=of_decide_eq_true (by first | (with_reducible assumption) | assumption);first | exact h_ | (have e_:=(Kd.R_reads' HO_y1.out).1;omega) | simpa using h_) (seg:=[.int .i64 t105,.int .i64 t106,.int .i64 t107]) (j:=0) hclx2 hccx2 (show 3≤3 from by decide) (x':=(⟨t105,t106,t107⟩:S56)) (k56_mkM _ _ _ (⟨t105,t106,t107⟩:S56) ) (fun _ hk=>hk);have hxx7:=hccx2 0 _ rfl;(try simp only[show (k56).sz=3 from rfl,Nat.mul_one,Nat.add_zero] at hxx7);have hfx4:=hfrx2 0;(try simp only[show (k56).sz=3 from rfl,Nat.mul_one,Nat.add_zero] at hfx4);have hxx8:=hccx2 1 _ rfl;(try simp only[show (k56).sz=3 from rfl,Nat.mul_one,Nat.add_zero] at hxx8);have hfx5:=hfrx2 1;(try simp only[show (k56).sz=3 from rfl,Nat.mul_one,Nat.add_zero] at hfx5);have hxx9:=hccx2 2 _ rfl;(try simp only[show (k56).sz=3 from rfl,Nat.mul_one,Nat.add_zero] at hxx9);have hfx6:=hfrx2 2;(try simp only[show (k56).sz=3 from rfl,Nat.mul_one,Nat.add_zero] at hfx6);clear hclx2 hccx2 hfrx2 hMx2) | ((with_reducible refine gate_store (t:=56) (p:=21) rfl ?_);refine store_event (t:=56) (p:=21) (v:=?vo_wx2) (w1:=(((wx1.setCell ⟨gox1,(x4_1:Int).toNat * 3,none⟩ (.int .i64 t105)).setCell ⟨gox1,(x4_1:Int).toNat * 3+1,none⟩ (.int .i64 t106)).setCell ⟨gox1,(x4_1:Int).toNat * 3+2,none⟩ (.int .i64 t107))) ?hg ?ho ?hn ?hr ?_;(case ho=>rfl);(case hg=>rfl);(case hn=>rfl);(case hr=>first | (go_simp;done) | (go_simp;rfl));intro wx2 hw;have hg:wx1.grownBy wx2 (some gox1):=(by rw[hw];exact HPx1.2);have hp_:Kd.R k56 56 wx2 w.heap.size (fun _=>True) (.slice (some ⟨gox1,0,none⟩) x3_1.length cox1) y108:=(by rw[hw,Ny108.out];exact HPx1.1);clear HPx1;replace HO_y1:=Aside0.mk (hp_);replace HB:=Aside0.mk ((by rw[hw];exact below_set (below_set (below_set (HB.out) GBx1.out) GBx1.out) GBx1.out:Below w.heap.size w wx2));clear hg hw hp_))
    go_roundg k1
    case measure=>have:=HKy1.out;omega
    case rel=>exact⟨(y108),(wrap64 (x4_1+1)),rS,H',⟨by have:=HKy1.out;omega⟩,⟨(rX HO_y1.out)⟩,⟨(hX HB.out)⟩⟩
   ·rw[if_neg c6] at H
    have c6b0:=decide_eq_false c6
    clear c6
    obtain rfl:=Option.some.inj H
    go_wp2
    go_ret
    exact⟨_,rE,(rX HO_y1.out),(hX HB.out)⟩
def XB.l0:Nat→List (S193)→List (S187)→Int→Option ((List (S187)))
 | 0,_,_,_=>none
 | k+1,x0,x3,x4=>if x4<(x0.length:Int) then (if 0≤x4 then ((Xao.f ((rd_T193 x0 x4).f0) ((rd_T193 x0 x4).f1)).bind fun bt105=>(if x4<(x3.length:Int) then (XB.l0 k x0 (x3.set (x4:Int).toNat (⟨bt105.1,bt105.2⟩:S187)) (wrap64 (x4+1))) else (none))) else (none)) else (some x3)
def XB.f (k:Nat) (l0:List (S193)):Option ((List (S187))):=if 0≤(l0.length:Int) then (if ((l0.length:Int):Int).toNat≤17592186044416 then (XB.l0 k l0 (List.replicate ((l0.length:Int):Int).toNat z187) 0) else (none)) else (none)
theorem XB.calls (k:Nat) (A0:Option Addr) (c0:Nat) (l0:List (S193)) (r:List (S187)) (w:World) (hr0:Kd.C k193 w A0 l0.length l0) (hc0:l0.length≤c0) (h:XB.f k l0=some r) :
  Calls Try.prog 167 #[.slice A0 l0.length c0] w fun e w'=>∃ v0_:Value,e = .returned (v0_)∧Kd.R k187 187 w' w.heap.size (fun _=>True) v0_ r∧Below w.heap.size w w':=by
 have hu193:=Try.underlying193
 have hu187:=Try.underlying187
 have HR0:=Aside0.mk hr0
 have HC0:=Aside0.mk hc0
 clear hr0 hc0
 have HB:=Aside0.mk (Below.refl w.heap.size w)
 have H:=h
 unfold XB.f at H
 clear h
 replace H:=ifP H;obtain⟨c2,H⟩:=H
 have c2b0:=eq_true c2
 have c2b1:=decide_eq_true c2
 clear c2
 replace H:=ifP H;obtain⟨c3,H⟩:=H
 have c3b0:=eq_true c3
 have c3b1:=decide_eq_true c3
 clear c3
 obtain⟨y101,hy101⟩:∃ y_:List (S187),y_=(List.replicate ((l0.length:Int):Int).toNat z187):=⟨_,rfl⟩
 replace H:(XB.l0 k l0 y101 0)=some r:=yH H hy101
 have Ny101:=Aside0.mk hy101
 clear hy101
 have H':=Aside0.mk H
 clear H
 go_enter Try.func167,Try.ntmps167
 go_wp2_with (first | ((with_reducible refine gate_dst (N:=7) rfl ?_);refine Kd.R_make k187 _ 187 rfl (N:=7) rfl 143 _ _ rfl (l0.length:Int) rfl rfl Try.underlying143 (.agg #[(.int .i64 0),(.int .i64 0)]) 16 info187 rfl (by decide) (by omega) z187 (ok:=fun _=>True) (okp:=fun _=>True) (k187_mkM _ _ _ z187 ) (fun _ hk=>hk) trivial (of_decide_eq_true (by first | (with_reducible assumption) | assumption)) (Nat.le_trans (Nat.mul_le_mul_right _ (of_decide_eq_true (by first | (with_reducible assumption) | assumption):(l0.length:Int).toNat≤17592186044416)) (by omega)) (Below.refl _ _) (Nat.le_refl _) ?_;intro vz1 wz1 hoz1 hb hg_ hnew_;clear hg_ hnew_;(first | rw[← Ny101.out] at hoz1 | (simp only[Int.reduceToNat] at hoz1;rw[← Ny101.out] at hoz1));have HOz1:=Aside0.mk (Kd.R_lower hoz1 (below_size (hX HB.out)));replace HB:=Aside0.mk (below_step (hX HB.out) hb);clear hb hoz1))
 go_loopg [4] k (fun kq v4 w'=>∃ (x3_1:List (S187)) (x4_1:Int),v4 = .int .i64 x4_1∧Aside0 (XB.l0 kq l0 x3_1 x4_1=some r)∧Aside0 (kq≤k)∧Aside0 (Kd.R k187 187 w' w.heap.size (fun _=>True) vz1 x3_1)∧Aside0 (Below w.heap.size w w'))
 case atStart=>exact⟨(y101),(0),rS,H',⟨Nat.le_refl _⟩,⟨(rX HOz1.out)⟩,⟨(hX HB.out)⟩⟩
 case round =>
  clear H'
  try clear c1
  try clear c2
  try clear c2b0
  try clear c2b1
  try clear p2
  try clear c3
  try clear c3b0
  try clear c3b1
  obtain⟨x3_1,x4_1,rfl,HA,HKy1,HO_y1,HB⟩:=hrel
  cases gk with
  | zero=>exact absurd HA.out (by simp[XB.l0])
  | succ k1 =>
   have H:=HA.out
   clear HA
   simp only[XB.l0] at H
   by_cases c6:x4_1<(l0.length:Int)
   ·rw[if_pos c6] at H
    have c6b0:=decide_eq_true c6
    clear c6
    replace H:=ifP H;obtain⟨c7,H⟩:=H
    have c7b0:=decide_eq_true c7
    clear c7
    replace H:=bE H;obtain⟨⟨t105,t106⟩,A8,H⟩:=H
    try dsimp only at H
    replace H:=ifP H;obtain⟨c9,H⟩:=H
    have c9b0:=decide_eq_true c9
    clear c9
    obtain⟨y107,hy107⟩:∃ y_:List (S187),y_=(x3_1.set (x4_1:Int).toNat (⟨t105,t106⟩:S187)):=⟨_,rfl⟩
    replace H:(XB.l0 k1 l0 y107 (wrap64 (x4_1+1)))=some r:=yH H hy107
    have Ny107:=Aside0.mk hy107
    clear hy107
    have H':=Aside0.mk H
    clear H
    have px1:0≤(x4_1:Int):=of_decide_eq_true (by first | (with_reducible assumption) | assumption)
    have qx1:x4_1<(l0.length:Int):=of_decide_eq_true (by first | (with_reducible assumption) | assumption)
    obtain⟨adx1,ex1,hxx1,hxx2⟩:=at_T193 HR0.out x4_1 px1 qx1
    cases ex1
    replace hxx1:=(HB.out.cell (World.block_lt_of_cell? w _ hxx1)).trans hxx1
    replace hxx2:=(HB.out.cell (World.block_lt_of_cell? w _ hxx2)).trans hxx2
    replace px1:=eq_true px1
    replace qx1:=eq_true qx1
    go_wp2_with (first | ((with_reducible refine gate_callee (f:=180) rfl ?_);refine goesM 180 20 Try.func180 #[.agg #[.int .i64 ((rd_T193 l0 x4_1).f0),.int .i64 ((rd_T193 l0 x4_1).f1)]] ?_;refine(Xao.calls ((rd_T193 l0 x4_1).f0) ((rd_T193 l0 x4_1).f1) t105 t106 _ A8.out).mono ?_;rintro e wx1 ⟨rfl,hb⟩;refine⟨_,rfl,?_⟩;replace HO_y1:=Aside0.mk (Kd.R_below (rX HO_y1.out) hb);replace HB:=Aside0.mk (below_step (hX HB.out) hb);clear hb;have px2:0≤(x4_1:Int):=of_decide_eq_true (by first | (with_reducible assumption) | assumption);have qx2:(x4_1:Int)<((x3_1.length:Int):Int):=of_decide_eq_true (by first | (with_reducible assumption) | assumption);obtain⟨gox1,cox1,eox1,gbx1,glx1,clx1,HGx1⟩:=Kd.R_form HO_y1.out (by omega);(first | cases eox1 | (injection eox1 with ea_ en_ ec_;(first | subst ea_ | (injection ea_ with ea_;subst ea_));subst ec_;clear en_));have GBx1:=Aside0.mk gbx1;have GGx1:=Aside0.mk HGx1;clear gbx1 glx1 HGx1;obtain⟨cex1,hclx1,hMx1,hccx1,hfrx1⟩:=Kd.R_elem HO_y1.out z187 (x4_1:Int) px2 qx2;obtain rfl:=k187_openM hMx1;have hxx3:wx1.cell? ⟨gox1,(x4_1:Int).toNat * 2,none⟩=some (.int .i64 ((rd_T187 x3_1 x4_1).f0)):=hccx1 0 _ rfl;have hxx4:wx1.cell? ⟨gox1,(x4_1:Int).toNat * 2+1,none⟩=some (.int .i64 ((rd_T187 x3_1 x4_1).f1)):=hccx1 1 _ rfl;have hfx1:wx1.frozen? ⟨gox1,(x4_1:Int).toNat * 2,none⟩=false:=hfrx1 0;have hfx2:wx1.frozen? ⟨gox1,(x4_1:Int).toNat * 2+1,none⟩=false:=hfrx1 1;clear hclx1 hccx1 hfrx1 hMx1;replace px2:=eq_true px2;replace qx2:=eq_true qx2;have HXx1:=Aside0.mk (show Kd.R k187 187 wx1 w.heap.size (fun _=>True) (.slice (some ⟨gox1,0,none⟩) x3_1.length cox1) x3_1 from (rX HO_y1.out));obtain⟨cex2,hclx2,hMx2,hccx2,hfrx2⟩:=Kd.R_elem HXx1.out z187 (x4_1:Int) (of_decide_eq_true (by first | (with_reducible assumption) | assumption)) (by have h_:(x4_1:Int)<((x3_1.length:Int):Int):=of_decide_eq_true (by first | (with_reducible assumption) | assumption);first | exact h_ | (have e_:=(Kd.R_reads' HO_y1.out).1;omega) | simpa using h_);obtain rfl:=k187_openM hMx2;have HPx1:=Kd.R_seg HXx1.out (x4_1:Int) (of_decide_eq_true (by first | (with_reducible assumption) | assumption)) (by have h_:(x4_1:Int)<((x3_1.length:Int):Int):=of_decide_eq_true (by first | (with_reducible assumption) | assumption);first | exact h_ | (have e_:=(Kd.R_reads' HO_y1.out).1;omega) | simpa using h_) (seg:=[.int .i64 t105,.int .i64 t106]) (j:=0) hclx2 hccx2 (show 2≤2 from by decide) (x':=(⟨t105,t106⟩:S187)) (k187_mkM _ _ _ (⟨t105,t106⟩:S187) ) (fun _ hk=>hk);have hxx5:=hccx2 0 _ rfl;(try simp only[show (k187).sz=2 from rfl,Nat.mul_one,Nat.add_zero] at hxx5);have hfx3:=hfrx2 0;(try simp only[show (k187).sz=2 from rfl,Nat.mul_one,Nat.add_zero] at hfx3);have hxx6:=hccx2 1 _ rfl;(try simp only[show (k187).sz=2 from rfl,Nat.mul_one,Nat.add_zero] at hxx6);have hfx4:=hfrx2 1;(try simp only[show (k187).sz=2 from rfl,Nat.mul_one,Nat.add_zero] at hfx4);clear hclx2 hccx2 hfrx2 hMx2) | ((with_reducible refine gate_store (t:=187) (p:=21) rfl ?_);refine store_event (t:=187) (p:=21) (v:=?vo_wx2) (w1:=((wx1.setCell ⟨gox1,(x4_1:Int).toNat * 2,none⟩ (.int .i64 t105)).setCell ⟨gox1,(x4_1:Int).toNat * 2+1,none⟩ (.int .i64 t106))) ?hg ?ho ?hn ?hr ?_;(case ho=>rfl);(case hg=>rfl);(case hn=>rfl);(case hr=>first | (go_simp;done) | (go_simp;rfl));intro wx2 hw;have hg:wx1.grownBy wx2 (some gox1):=(by rw[hw];exact HPx1.2);have hp_:Kd.R k187 187 wx2 w.heap.size (fun _=>True) (.slice (some ⟨gox1,0,none⟩) x3_1.length cox1) y107:=(by rw[hw,Ny107.out];exact HPx1.1);clear HPx1;replace HO_y1:=Aside0.mk (hp_);replace HB:=Aside0.mk ((by rw[hw];exact below_set (below_set (HB.out) GBx1.out) GBx1.out:Below w.heap.size w wx2));clear hg hw hp_))
    go_roundg k1
    case measure=>have:=HKy1.out;omega
    case rel=>exact⟨(y107),(wrap64 (x4_1+1)),rS,H',⟨by have:=HKy1.out;omega⟩,⟨(rX HO_y1.out)⟩,⟨(hX HB.out)⟩⟩
   ·rw[if_neg c6] at H
    have c6b0:=decide_eq_false c6
    clear c6
    obtain rfl:=Option.some.inj H
    go_wp2
    go_ret
    exact⟨_,rE,(rX HO_y1.out),(hX HB.out)⟩
end Go.Proofs.Yteamagejhbkhnaa.P
