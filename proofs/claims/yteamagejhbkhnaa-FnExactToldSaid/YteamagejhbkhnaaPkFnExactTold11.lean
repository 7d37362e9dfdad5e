/- A part of the proof of the law FnExactTold: texts of this seat, merged (words, printed functions of the program, plain lemmas). Conditions: none of its own. -/
import Derived.Test.YteamagejhbkhnaaPkFnExactTold7
import Derived.Test.YteamagejhbkhnaaPkFnExactTold8
set_option linter.unusedSimpArgs false
set_option linter.unusedVariables false
set_option maxHeartbeats 8000000
set_option maxRecDepth 100000
namespace Go.Proofs.Yteamagejhbkhnaa.P
open Go.Proofs.YteamagejhbkhnaaZ Go.RowKit Go.Proofs.YteamagejhbkhnaaW.PrintWords Go.Proofs.YteamagejhbkhnaaW.PrintLast Go.Proofs.YteamagejhbkhnaaW.PrintMore
attribute [local go_sem] max2_int min2_int max_two min_two max_three min_three max_four min_four   -- for this text's walks alone
def XC.l0:Nat→List (S195)→List (S189)→Int→Option ((List (S189)))
 | 0,_,_,_=>none
 | k+1,x0,x3,x4=>if x4<(x0.length:Int) then (if 0≤x4 then ((Xap.f ((rd_T195 x0 x4).f0) ((rd_T195 x0 x4).f1) ((rd_T195 x0 x4).f2) ((rd_T195 x0 x4).f3)).bind fun bt105=>(if x4<(x3.length:Int) then (XC.l0 k x0 (x3.set (x4:Int).toNat (⟨bt105.1,bt105.2.1,bt105.2.2.1,bt105.2.2.2⟩:S189)) (wrap64 (x4+1))) else (none))) else (none)) else (some x3)
def XC.f (k:Nat) (l0:List (S195)):Option ((List (S189))):=if 0≤(l0.length:Int) then (if ((l0.length:Int):Int).toNat≤8796093022208 then (XC.l0 k l0 (List.replicate ((l0.length:Int):Int).toNat z189) 0) else (none)) else (none)
theorem XC.calls (k:Nat) (A0:Option Addr) (c0:Nat) (l0:List (S195)) (r:List (S189)) (w:World) (hr0:Kd.C k195 w A0 l0.length l0) (hc0:l0.length≤c0) (h:XC.f k l0=some r) :
  Calls Try.prog 168 #[.slice A0 l0.length c0] w fun e w'=>∃ v0_:Value,e = .returned (v0_)∧Kd.R k189 189 w' w.heap.size (fun _=>True) v0_ r∧Below w.heap.size w w':=by
 have hu195:=Try.underlying195
 have hu189:=Try.underlying189
 have HR0:=Aside0.mk hr0
 have HC0:=Aside0.mk hc0
 clear hr0 hc0
 have HB:=Aside0.mk (Below.refl w.heap.size w)
 have H:=h
 unfold XC.f at H
 clear h
 replace H:=ifP H;obtain⟨c2,H⟩:=H
 have c2b0:=eq_true c2
 have c2b1:=decide_eq_true c2
 clear c2
 replace H:=ifP H;obtain⟨c3,H⟩:=H
 have c3b0:=eq_true c3
 have c3b1:=decide_eq_true c3
 clear c3
 obtain⟨y101,hy101⟩:∃ y_:List (S189),y_=(List.replicate ((l0.length:Int):Int).toNat z189):=⟨_,rfl⟩
 replace H:(XC.l0 k l0 y101 0)=some r:=yH H hy101
 have Ny101:=Aside0.mk hy101
 clear hy101
 have H':=Aside0.mk H
 clear H
 go_enter Try.func168,Try.ntmps168
 go_wp2_with (first | ((with_reducible refine gate_dst (N:=7) rfl ?_);refine Kd.R_make k189 _ 189 rfl (N:=7) rfl 144 _ _ rfl (l0.length:Int) rfl rfl Try.underlying144 (.agg #[(.int .i64 0),(.int .i64 0),(.int .i64 0),(.int .i64 0)]) 32 info189 rfl (by decide) (by omega) z189 (ok:=fun _=>True) (okp:=fun _=>True) (k189_mkM _ _ _ z189 ) (fun _ hk=>hk) trivial (of_decide_eq_true (by first | (with_reducible assumption) | assumption)) (Nat.le_trans (Nat.mul_le_mul_right _ (of_decide_eq_true (by first | (with_reducible assumption) | assumption):(l0.length:Int).toNat≤8796093022208)) (by omega)) (Below.refl _ _) (Nat.le_refl _) ?_;intro vz1 wz1 hoz1 hb hg_ hnew_;clear hg_ hnew_;(first | rw[← Ny101.out] at hoz1 | (simp only[Int.reduceToNat] at hoz1;rw[← Ny101.out] at hoz1));have HOz1:=Aside0.mk (Kd.R_lower hoz1 (below_size (hX HB.out)));replace HB:=Aside0.mk (below_step (hX HB.out) hb);clear hb hoz1))
 go_loopg [4] k (fun kq v4 w'=>∃ (x3_1:List (S189)) (x4_1:Int),v4 = .int .i64 x4_1∧Aside0 (XC.l0 kq l0 x3_1 x4_1=some r)∧Aside0 (kq≤k)∧Aside0 (Kd.R k189 189 w' w.heap.size (fun _=>True) vz1 x3_1)∧Aside0 (Below w.heap.size w w'))
 case atStart=>exact⟨(y101),(0),rS,H',⟨Nat.le_refl _⟩,⟨(rX HOz1.out)⟩,⟨(hX HB.out)⟩⟩
 case round =>
  clear H'
  try clear c1
  try clear c2
  try clear c2b0
  try clear c2b1
  try clear p2
  try clear c3
  try clear c3b0
  try clear c3b1
  obtain⟨x3_1,x4_1,rfl,HA,HKy1,HO_y1,HB⟩:=hrel
  cases gk with
  | zero=>exact absurd HA.out (by simp[XC.l0])
  | succ k1 =>
   have H:=HA.out
   clear HA
   simp only[XC.l0] at H
   by_cases c6:x4_1<(l0.length:Int)
   ·rw[if_pos c6] at H
    have c6b0:=decide_eq_true c6
    clear c6
    replace H:=ifP H;obtain⟨c7,H⟩:=H
    have c7b0:=decide_eq_true c7
    clear c7
    replace H:=bE H;obtain⟨⟨t105,t106,t107,t108⟩,A8,H⟩:=H
    try dsimp only at H
    replace H:=ifP H;obtain⟨c9,H⟩:=H
    have c9b0:=decide_eq_true c9
    clear c9
    obtain⟨y109,hy109⟩:∃ y_:List (S189),y_=(x3_1.set (x4_1:Int).toNat (⟨t105,t106,t107,t108⟩:S189)):=⟨_,rfl⟩
    replace H:(XC.l0 k1 l0 y109 (wrap64 (x4_1+1)))=some r:=yH H hy109
    have Ny109:=Aside0.mk hy109
    clear hy109
    have H':=Aside0.mk H
    clear H
    have px1:0≤(x4_1:Int):=of_decide_eq_true (by first | (with_reducible assumption) | assumption)
    have qx1:x4_1<(l0.length:Int):=of_decide_eq_true (by first | (with_reducible assumption) | assumption)
    obtain⟨adx1,ex1,hxx1,hxx2,hxx3,hxx4⟩:=at_T195 HR0.out x4_1 px1 qx1
    cases ex1
    replace hxx1:=(HB.out.cell (World.block_lt_of_cell? w _ hxx1)).trans hxx1
    replace hxx2:=(HB.out.cell (World.block_lt_of_cell? w _ hxx2)).trans hxx2
    replace hxx3:=(HB.out.cell (World.block_lt_of_cell? w _ hxx3)).trans hxx3
    replace hxx4:=(HB.out.cell (World.block_lt_of_cell? w _ hxx4)).trans hxx4
    replace px1:=eq_true px1
    replace qx1:=eq_true qx1
    go_wp2_with (first | ((with_reducible refine gate_callee (f:=181) rfl ?_);refine goesM 181 20 Try.func181 #[.agg #[.int .i64 ((rd_T195 l0 x4_1).f0),.int .i64 ((rd_T195 l0 x4_1).f1),.int .i64 ((rd_T195 l0 x4_1).f2),.int .i64 ((rd_T195 l0 x4_1).f3)]] ?_;refine(Xap.calls ((rd_T195 l0 x4_1).f0) ((rd_T195 l0 x4_1).f1) ((rd_T195 l0 x4_1).f2) ((rd_T195 l0 x4_1).f3) t105 t106 t107 t108 _ A8.out).mono ?_;rintro e wx1 ⟨rfl,hb⟩;refine⟨_,rfl,?_⟩;replace HO_y1:=Aside0.mk (Kd.R_below (rX HO_y1.out) hb);replace HB:=Aside0.mk (below_step (hX HB.out) hb);clear hb;have px2:0≤(x4_1:Int):=of_decide_eq_true (by first | (with_reducible assumption) | assumption);have qx2:(x4_1:Int)<((x3_1.length:Int):Int):=of_decide_eq_true (by first | (with_reducible assumption) | assumption);obtain⟨gox1,cox1,eox1,gbx1,glx1,clx1,HGx1⟩:=Kd.R_form HO_y1.out (by omega);(first | cases eox1 | (injection eox1 with ea_ en_ ec_;(first | subst ea_ | (injection ea_ with ea_;subst ea_));subst ec_;clear en_));have GBx1:=Aside0.mk gbx1;have GGx1:=Aside0.mk HGx1;clear gbx1 glx1 HGx1;obtain⟨cex1,hclx1,hMx1,hccx1,hfrx1⟩:=Kd.R_elem HO_y1.out z189 (x4_1:Int) px2 qx2;obtain rfl:=k189_openM hMx1;have hxx5:wx1.cell? ⟨gox1,(x4_1:Int).toNat * 4,none⟩=some (.int .i64 ((rd_T189 x3_1 x4_1).f0)):=hccx1 0 _ rfl;have hxx6:wx1.cell? ⟨gox1,(x4_1:Int).toNat * 4+1,none⟩=some (.int .i64 ((rd_T189 x3_1 x4_1).f1)):=hccx1 1 _ rfl;have hxx7:wx1.cell? ⟨gox1,(x4_1:Int).toNat * 4+2,none⟩=some (.int .i64 ((rd_T189 x3_1 x4_1).f2)):=hccx1 2 _ rfl;have hxx8:wx1.cell? ⟨gox1,(x4_1:Int).toNat * 4+3,none⟩=some (.int .i64 ((rd_T189 x3_1 x4_1).f3)):=hccx1 3 _ rfl;have hfx1:wx1.frozen? ⟨gox1,(x4_1:Int).toNat * 4,none⟩=false:=hfrx1 0;have hfx2:wx1.frozen? ⟨gox1,(x4_1:Int).toNat * 4+1,none⟩=false:=hfrx1 1;have hfx3:wx1.frozen? ⟨gox1,(x4_1:Int).toNat * 4+2,none⟩=false:=hfrx1 2;have hfx4:wx1.frozen? ⟨gox1,(x4_1:Int).toNat * 4+3,none⟩=false:=hfrx1 3;clear hclx1 hccx1 hfrx1 hMx1;replace px2:=eq_true px2;replace qx2:=eq_true qx2;have HXx1:=Aside0.mk (show Kd.R k189 189 wx1 w.heap.size (fun _=>True) (.slice (some ⟨gox1,0,none⟩) x3_1.length cox1) x3_1 from (rX HO_y1.out));obtain⟨cex2,hclx2,hMx2,hccx2,hfrx2⟩:=Kd.R_elem HXx1.out z189 (x4_1:Int) (of_decide_eq_true (by first | (with_reducible assumption) | assumption)) (by have h_:(x4_1:Int)<((x3_1.length:Int):Int):=of_decide_eq_true (by first | (with_reducible assumption) | assumption);first | exact h_ | (have e_:=(Kd.R_reads' HO_y1.out).1;omega) | simpa using h_);obtain rfl:=k189_openM hMx2;have HPx1:=Kd.R_seg HXx1.out (x4_1:Int) (of_decide_eq_true (by first | (with_reducible assumption) | assumption)) (by have h_:(x4_1:Int)<((x3_1.length:Int):Int):=of_decide_eq_true (by first | (with_reducible assumption) | assumption);first | exact h_ | (have e_:=(Kd.R_reads' HO_y1.out).1;omega) | simpa using h_) (seg:=[.int .i64 t105,.int .i64 t106,.int .i64 t107,.int .i64 t108]) (j:=0) hclx2 hccx2 (show 4≤4 from by decide) (x':=(⟨t105,t106,t107,t108⟩:S189)) (k189_mkM _ _ _ (⟨t105,t106,t107,t108⟩:S189) ) (fun _ hk=>hk);have hxx9:=hccx2 0 _ rfl;(try simp only[show (k189).sz=4 from rfl,Nat.mul_one,Nat.add_zero] at hxx9);have hfx5:=hfrx2 0;(try simp only[show (k189).sz=4 from rfl,Nat.mul_one,Nat.add_zero] at hfx5);have hxx10:=hccx2 1 _ rfl;(try simp only[show (k189).sz=4 from rfl,Nat.mul_one,Nat.add_zero] at hxx10);have hfx6:=hfrx2 1;(try simp only[show (k189).sz=4 from rfl,Nat.mul_one,Nat.add_zero] at hfx6);have hxx11:=hccx2 2 _ rfl;(try simp only[show (k189).sz=4 from rfl,Nat.mul_one,Nat.add_zero] at hxx11);have hfx7:=hfrx2 2;(try simp only[show (k189).sz=4 from rfl,Nat.mul_one,Nat.add_zero] at hfx7);have hxx12:=hccx2 3 _ rfl;(try simp only[show (k189).sz=4 from rfl,Nat.mul_one,Nat.add_zero] at hxx12);have hfx8:=hfrx2 3;(try simp only[show (k189).sz=4 from rfl,Nat.mul_one,Nat.add_zero] at hfx8);clear hclx2 hccx2 hfrx2 hMx2) | ((with_reducible refine gate_store (t:=189) (p:=21) rfl ?_);refine store_event (t:=189) (p:=21) (v:=?vo_wx2) (w1:=((((wx1.setCell ⟨gox1,(x4_1:Int).toNat * 4,none⟩ (.int .i64 t105)).setCell ⟨gox1,(x4_1:Int).toNat * 4+1,none⟩ (.int .i64 t106)).setCell ⟨gox1,(x4_1:Int).toNat * 4+2,none⟩ (.int .i64 t107)).setCell ⟨gox1,(x4_1:Int).toNat * 4+3,none⟩ (.int .i64 t108))) ?hg ?ho ?hn ?hr ?_;(case ho=>rfl);(case hg=>rfl);(case hn=>rfl);(case hr=>first | (go_simp;done) | (go_simp;rfl));intro wx2 hw;have hg:wx1.grownBy wx2 (some gox1):=(by rw[hw];exact HPx1.2);have hp_:Kd.R k189 189 wx2 w.heap.size (fun _=>True) (.slice (some ⟨gox1,0,none⟩) x3_1.length cox1) y109:=(by rw[hw,Ny109.out];exact HPx1.1);clear HPx1;replace HO_y1:=Aside0.mk (hp_);replace HB:=Aside0.mk ((by rw[hw];exact below_set (below_set (below_set (below_set (HB.out) GBx1.out) GBx1.out) GBx1.out) GBx1.out:Below w.heap.size w wx2));clear hg hw hp_))
    go_roundg k1
    case measure=>have:=HKy1.out;omega
    case rel=>exact⟨(y109),(wrap64 (x4_1+1)),rS,H',⟨by have:=HKy1.out;omega⟩,⟨(rX HO_y1.out)⟩,⟨(hX HB.out)⟩⟩
   ·rw[if_neg c6] at H
    have c6b0:=decide_eq_false c6
    clear c6
    obtain rfl:=Option.some.inj H
    go_wp2
    go_ret
    exact⟨_,rE,(rX HO_y1.out),(hX HB.out)⟩
def X0.f (k:Nat) (l0_0:List Int) (a0_1:Int):Option (List Int × Int):=(Xq.f k l0_0).bind fun t104=>(some (t104,a0_1))
theorem X0.calls (k:Nat) (A0_0:Option Addr) (c0_0:Nat) (l0_0:List Int) (a0_1:Int) (r1:List Int) (r2:Int) (w:World) (hr0_0:Kd.C (Kd.int .i64) w A0_0 l0_0.length l0_0) (hc0_0:l0_0.length≤c0_0) (h:X0.f k l0_0 a0_1=some (r1,r2)) :
  Calls Try.prog 62 #[.agg #[.slice A0_0 l0_0.length c0_0,.int .i64 a0_1]] w fun e w'=>∃ v0_:Value,e = .returned (.agg #[v0_,.int .i64 r2])∧Kd.R (Kd.int .i64) 3 w' w.heap.size (fun _=>True) v0_ r1∧Below w.heap.size w w':=by
 have hu62:=Try.underlying62
 have hu24:=Try.underlying24
 have HR0_0:=Aside0.mk hr0_0
 have HC0_0:=Aside0.mk hc0_0
 clear hr0_0 hc0_0
 have HB:=Aside0.mk (Below.refl w.heap.size w)
 have H:=h
 unfold X0.f at H
 clear h
 replace H:=bE H;obtain⟨t104,A2,H⟩:=H
 simp only[Option.some.injEq,Prod.mk.injEq] at H
 obtain⟨rfl,rfl⟩:=H
 go_enter Try.func62,Try.ntmps62
 go_wp2_with (first | ((with_reducible refine gate_dst (N:=1) rfl ?_);refine boxE 1 #[.slice A0_0 l0_0.length c0_0,.int .i64 a0_1] 62 ?_;intro gbz1 hg wz1 hbox hb;have BKz1:=Aside0.mk (hbox);have GWz1:=Aside0.mk (gX' hg (hX HB.out));have GEz1:=Aside0.mk (gX' hg (hX HB.out));replace HB:=Aside0.mk (below_step (hX HB.out) hb);clear hb hbox hg) | ((with_reducible refine gate_dst (N:=2) rfl ?_);refine boxE 2 #[.slice none 0 0,.int .i64 0] 24 ?_;intro gbz2 hg wz2 hbox hb;have BKz2:=Aside0.mk (hbox);have GWz2:=Aside0.mk (gX' hg (hX HB.out));have GEz2:=Aside0.mk (gX' hg (hX HB.out));have NBz1:=Aside0.mk (gL hg (bX BKz1.out));have NBz2:=Aside0.mk (gG hg (bX BKz1.out));replace BKz1:=Aside0.mk (blk_below (bX BKz1.out) hb);replace HB:=Aside0.mk (below_step (hX HB.out) hb);clear hb hbox hg) | ((with_reducible refine gate_dst (N:=3) rfl ?_);refine boxE 3 #[.slice none 0 0,.int .i64 0] 24 ?_;intro gbz3 hg wz3 hbox hb;have BKz3:=Aside0.mk (hbox);have GWz3:=Aside0.mk (gX' hg (hX HB.out));have GEz3:=Aside0.mk (gX' hg (hX HB.out));have NBz3:=Aside0.mk (gL hg (bX BKz1.out));have NBz4:=Aside0.mk (gG hg (bX BKz1.out));have NBz5:=Aside0.mk (gL hg (bX BKz2.out));have NBz6:=Aside0.mk (gG hg (bX BKz2.out));replace BKz1:=Aside0.mk (blk_below (bX BKz1.out) hb);replace BKz2:=Aside0.mk (blk_below (bX BKz2.out) hb);replace HB:=Aside0.mk (below_step (hX HB.out) hb);clear hb hbox hg;have hnbz1:=NBz1.out;have hncz1:=NBz2.out;have hnbz2:=NBz3.out;have hncz2:=NBz4.out;obtain⟨hczz1,hczz2,hfzz1,hfzz2⟩:=cZ2 BKz1.out) | ((with_reducible refine gate_callee (f:=14) rfl ?_);refine goesM 14 6 Try.func14 #[.slice A0_0 l0_0.length c0_0] ?_;refine(Xq.calls k _ _ l0_0 t104 _ (cC HR0_0.out HB.out) HC0_0.out A2.out).mono ?_;rintro e wz4 ⟨vz1,rfl,hoz1,hb⟩;refine⟨_,rfl,?_⟩;have HOz1:=Aside0.mk (Kd.R_lower hoz1 (below_size (hX HB.out)));replace BKz1:=Aside0.mk (blk_below (bX BKz1.out) hb);replace BKz2:=Aside0.mk (blk_below (bX BKz2.out) hb);replace BKz3:=Aside0.mk (blk_below (bX BKz3.out) hb);replace HB:=Aside0.mk (below_step (hX HB.out) hb);clear hb hoz1;obtain⟨Aoz1,coz1,eoz1⟩:=Kd.R_slice HOz1.out;subst eoz1;have hnbz3:=NBz6.out;have hncz3:=NBz5.out;obtain⟨hczz3,hczz4,hfzz3,hfzz4⟩:=cZ2 BKz3.out;obtain⟨hczz5,hczz6,hfzz5,hfzz6⟩:=cZ2 BKz1.out;obtain⟨hczz7,hczz8,hfzz7,hfzz8⟩:=cZ2 BKz2.out))
 refine bodyPost_ret (results_cell_row rfl _ _ gbz2 24 #[.slice Aoz1 t104.length coz1,.int .i64 a0_1] (0,0) _ rfl (bP BKz2.out) Try.underlying24 rfl (by kernel_rfl)) rfl ?_
 exact⟨_,rE,(rT (h:=by exact Kd.R_mono (Kd.R_far (p:=⟨gbz2,1,none⟩) (Kd.R_far (p:=⟨gbz2,0,none⟩) (Kd.R_far (p:=⟨gbz3,1,none⟩) (Kd.R_far (p:=⟨gbz3,0,none⟩) (Kd.R_types (Kd.R_types HOz1.out BKz3.out (by decide)) BKz2.out (by decide)) (fun _ hk=>hk.1.2) (.slice Aoz1 t104.length coz1)) (fun _ hk=>hk.1.2) (.int .i64 a0_1)) (fun _ hk=>hk.2) (.slice Aoz1 t104.length coz1)) (fun _ hk=>hk.2) (.int .i64 a0_1)) (fun _ hk=>trivial))),(hX HB.out)⟩
def X6.f (a0_0:Int) (l0_1:List Int):Option (Int × List Int):=(slices_Clone_int_int.f l0_1).bind fun t103=>(some (a0_0,t103))
theorem X6.calls (a0_0:Int) (A0_1:Option Addr) (c0_1:Nat) (l0_1:List Int) (r1:Int) (r2:List Int) (w:World) (hr0_1:Kd.C (Kd.int .i64) w A0_1 l0_1.length l0_1) (hc0_1:l0_1.length≤c0_1) (h:X6.f a0_0 l0_1=some (r1,r2)) :
  Calls Try.prog 119 #[.agg #[.int .i64 a0_0,.slice A0_1 l0_1.length c0_1]] w fun e w'=>∃ v1_:Value,e = .returned (.agg #[.int .i64 r1,v1_])∧Kd.R (Kd.int .i64) 3 w' w.heap.size (fun _=>True) v1_ r2∧Below w.heap.size w w':=by
 have hu57:=Try.underlying57
 have HR0_1:=Aside0.mk hr0_1
 have HC0_1:=Aside0.mk hc0_1
 clear hr0_1 hc0_1
 have HB:=Aside0.mk (Below.refl w.heap.size w)
 have H:=h
 unfold X6.f at H
 clear h
 replace H:=bE H;obtain⟨t103,A2,H⟩:=H
 simp only[Option.some.injEq,Prod.mk.injEq] at H
 obtain⟨rfl,rfl⟩:=H
 go_enter Try.func119,Try.ntmps119
 try go_wp2_with (first | ((with_reducible refine gate_dst (N:=1) rfl ?_);refine boxE 1 #[.int .i64 a0_0,.slice A0_1 l0_1.length c0_1] 57 ?_;intro gbz1 hg wz1 hbox hb;have BKz1:=Aside0.mk (hbox);have GWz1:=Aside0.mk (gX' hg (hX HB.out));have GEz1:=Aside0.mk (gX' hg (hX HB.out));replace HB:=Aside0.mk (below_step (hX HB.out) hb);clear hb hbox hg) | ((with_reducible refine gate_dst (N:=2) rfl ?_);refine boxE 2 #[.int .i64 0,.slice none 0 0] 57 ?_;intro gbz2 hg wz2 hbox hb;have BKz2:=Aside0.mk (hbox);have GWz2:=Aside0.mk (gX' hg (hX HB.out));have GEz2:=Aside0.mk (gX' hg (hX HB.out));have NBz1:=Aside0.mk (gL hg (bX BKz1.out));have NBz2:=Aside0.mk (gG hg (bX BKz1.out));replace BKz1:=Aside0.mk (blk_below (bX BKz1.out) hb);replace HB:=Aside0.mk (below_step (hX HB.out) hb);clear hb hbox hg))
 replace BKz1:=Aside0.mk (blk_drew BKz1.out)
 replace BKz2:=Aside0.mk (blk_drew BKz2.out)
 replace HB:=Aside0.mk (below_drew1 HB.out)
 refine start_ (n:=7) (S:=fun w'=>w'.cell? ⟨gbz1,0,none⟩=some (.int .i64 a0_0)∧w'.cell? ⟨gbz1,1,none⟩=some (.slice A0_1 l0_1.length c0_1)) (ds:=[]) (bm 7 0) (by kernel_rfl) rfl (by kernel_rfl) ⟨cK BKz1.out 0,cK BKz1.out 1⟩ (fun hHeld => ?_)
 generalize wz2.drew=wz3 at BKz1 BKz2 HB hHeld ⊢
 refine pK 0 3 (bm 7 1) ?_
 refine pK 2 5 (bm 7 5) ?_
 refine tK 1 4 (bm 7 7) hHeld ?_
 refine tK 3 6 (bm 7 15) hHeld ?_
 refine oK 4 (some 7) (bm 7 31) (fun K hK => ?_)
 refine goesN Try.func75 #[.slice A0_1 l0_1.length c0_1] ?_
 with_reducible refine(slices_Clone_int_int.calls _ _ l0_1 t103 _ ?side1 ?side2 A2.out).mono ?_
 (case side1=>repeat (first | exact(Kd.C_below HR0_1.out HB.out) | (with_reducible refine Kd.C_alloc ?_ _) | (with_reducible refine Kd.C_drewN ?_ _) | (with_reducible refine Kd.C_drew ?_)))
 (case side2=>exact HC0_1.out)
 rintro e wz4 ⟨vz1,rfl,hoz1,hb⟩
 refine⟨_,rfl,?_⟩
 have HOz1:=Aside0.mk (Kd.R_lower hoz1 (below_size (hX HB.out)))
 replace BKz1:=Aside0.mk (blk_below (bX BKz1.out) hb)
 replace BKz2:=Aside0.mk (blk_below (bX BKz2.out) hb)
 replace HB:=Aside0.mk (below_step (hX HB.out) hb)
 (try clear hb)
 (try clear hb2)
 (try clear hk)
 (try clear hi)
 (try clear hoz1)
 obtain⟨Aoz1,coz1,eoz1⟩:=Kd.R_slice HOz1.out
 (first | subst eoz1 | (injection eoz1 with f1_ f2_ f3_;have fz1:=f1_.symm;have fz2:=f3_.symm;clear f1_ f2_ f3_;subst fz1;subst fz2))
 refine hK.out _ _ ⟨cK BKz1.out 0,cK BKz1.out 1⟩ (fun hHeld => ?_)
 clear hK K
 refine nZ 7 ?_
 refine pK 5 8 (bm 7 63) ?_
 refine oK 6 none (bm 7 127) (fun K hK => ?_)
 have hsz1:wz4.cell? ⟨gbz2,0,none⟩=some (.int .i64 0):=(blk_cell BKz2.out 0).trans rfl
 have hfsz1:=blk_frozen BKz2.out 0
 have hnsz1:=NBz1.out
 have hmsz1:=NBz2.out
 have hsz2:wz4.cell? ⟨gbz2,1,none⟩=some (.slice none 0 0):=(blk_cell BKz2.out 1).trans rfl
 have hfsz2:=blk_frozen BKz2.out 1
 have hnsz2:=NBz1.out
 have hmsz2:=NBz2.out
 refine skip_ (w1:=?_) (by rfl) rfl ?_ ?_
 rotate_left
 ·go_simp
  rfl
 refine hK.out _ _ ⟨((cell_far (p:=⟨gbz2,_,none⟩) NBz1.out _).trans (((cell_far (p:=⟨gbz2,_,none⟩) NBz1.out _).trans (hHeld.1)))),((cell_far (p:=⟨gbz2,_,none⟩) NBz1.out _).trans (((cell_far (p:=⟨gbz2,_,none⟩) NBz1.out _).trans (hHeld.2))))⟩ (fun hHeld => ?_)
 clear hK K
 refine done_ (by kernel_rfl) ?_
 try go_wp2
 refine bodyPost_ret (results_cell_row rfl _ _ gbz2 57 #[.int .i64 a0_0,.slice Aoz1 t103.length coz1] (0,0) _ rfl (bP BKz2.out) Try.underlying57 rfl (by kernel_rfl)) rfl ?_
 exact⟨_,rE,(rT (h:=by exact Kd.R_mono (Kd.R_far (p:=⟨gbz2,1,none⟩) (Kd.R_far (p:=⟨gbz2,0,none⟩) (Kd.R_types HOz1.out BKz2.out (by decide)) (fun _ hk=>hk.2) (.int .i64 a0_0)) (fun _ hk=>hk.2) (.slice Aoz1 t103.length coz1)) (fun _ hk=>trivial))),(hX HB.out)⟩
def Xd.l0:Nat→List (S170)→List (S170)→Int→Option (Bool)
 | 0,_,_,_=>none
 | k+1,x0,x1,x5=>if x5<(x0.length:Int) then (if 0≤x5 then (if x5<(x1.length:Int) then ((Xad.f ((rd_T170 x0 x5).f0) ((rd_T170 x0 x5).f1) ((rd_T170 x0 x5).f2) ((rd_T170 x1 x5).f0) ((rd_T170 x1 x5).f1) ((rd_T170 x1 x5).f2)).bind fun t103=>(if t103=true then (Xd.l0 k x0 x1 (wrap64 (x5+1))) else (some false))) else (none)) else (none)) else (some true)
def Xd.f (k:Nat) (l0:List (S170)) (l1:List (S170)):Option (Bool):=if (l0.length:Int)=(l1.length:Int) then (Xd.l0 k l0 l1 0) else (some false)
def Xd.T6:Bool × List (List Nat × List Nat):=(true,[([],[]),([],[]),([0,1],[0,1]),([2],[2]),([],[]),([],[]),([4,5],[4,5]),([6],[6]),([3,7],[3,7]),([8],[8])])
def Xd.B6:List Nat:=[0,0,3,7,0,0,48,112,255,511]
theorem Xd.tab6:rtab .any (opsOf Try.f144 6)=Xd.T6:=by kernel_rfl
theorem Xd.bits6:waitsOk Xd.T6.2 Xd.B6=true:=by kernel_rfl
theorem Xd.calls (k:Nat) (A0:Option Addr) (c0:Nat) (l0:List (S170)) (A1:Option Addr) (c1:Nat) (l1:List (S170)) (r:Bool) (w:World) (hr0:Kd.C k170 w A0 l0.length l0) (hc0:l0.length≤c0) (hr1:Kd.C k170 w A1 l1.length l1) (hc1:l1.length≤c1) (h:Xd.f k l0 l1=some r) :
  Calls Try.prog 144 #[.slice A0 l0.length c0,.slice A1 l1.length c1] w fun e w'=>e = .returned (.bool r)∧Below w.heap.size w w':=by
 have hu170:=Try.underlying170
 have HR0:=Aside0.mk hr0
 have HC0:=Aside0.mk hc0
 clear hr0 hc0
 have HR1:=Aside0.mk hr1
 have HC1:=Aside0.mk hc1
 clear hr1 hc1
 have HB:=Aside0.mk (Below.refl w.heap.size w)
 have H:=h
 unfold Xd.f at H
 clear h
 go_enter Try.func144,Try.ntmps144
 by_cases c3:(l0.length:Int)=(l1.length:Int)
 ·rw[if_pos c3] at H
  obtain⟨c3b0,c3b1⟩:=eqT c3
  have c3b2:(l0.length == l1.length)=true:=by first | simpa using c3 | (simp at c3 ⊢;omega)
  clear c3
  have H':=Aside0.mk H
  clear H
  go_wp2
  go_loopg [5] k (fun kq v5 w'=>∃ (x5_1:Int),v5 = .int .i64 x5_1∧Aside0 (Xd.l0 kq l0 l1 x5_1=some r)∧Aside0 (kq≤k)∧Aside0 (Below w.heap.size w w'))
  case atStart=>exact⟨(0),rS,H',⟨Nat.le_refl _⟩,⟨(hX HB.out)⟩⟩
  case round =>
   clear H'
   try clear c1
   try clear p2
   try clear c3
   try clear c3b0
   try clear c3b1
   try clear c3b2
   obtain⟨x5_1,rfl,HA,HKy1,HB⟩:=hrel
   cases gk with
   | zero=>exact absurd HA.out (by simp[Xd.l0])
   | succ k1 =>
    have H:=HA.out
    clear HA
    simp only[Xd.l0] at H
    by_cases c4:x5_1<(l0.length:Int)
    ·rw[if_pos c4] at H
     have c4b0:=decide_eq_true c4
     clear c4
     replace H:=ifP H;obtain⟨c5,H⟩:=H
     have c5b0:=decide_eq_true c5
     clear c5
     replace H:=ifP H;obtain⟨c6,H⟩:=H
     have c6b0:=decide_eq_true c6
     clear c6
     replace H:=bE H;obtain⟨t103,A7,H⟩:=H
     try go_wp2
     replace HB:=Aside0.mk (below_drew1 HB.out)
     have px1:0≤(x5_1:Int):=of_decide_eq_true (by first | (with_reducible assumption) | assumption)
     have qx1:x5_1<(l0.length:Int):=of_decide_eq_true (by first | (with_reducible assumption) | assumption)
     obtain⟨adx1,ex1,hxx1,hxx2,hxx3⟩:=at_T170 HR0.out x5_1 px1 qx1
     have hwx1:=hxx3
     have hwx2:=hxx2
     have hwx3:=hxx1
     cases ex1
     replace hxx1:=(HB.out.cell (World.block_lt_of_cell? w _ hxx1)).trans hxx1
     replace hxx2:=(HB.out.cell (World.block_lt_of_cell? w _ hxx2)).trans hxx2
     replace hxx3:=(HB.out.cell (World.block_lt_of_cell? w _ hxx3)).trans hxx3
     replace px1:=eq_true px1
     replace qx1:=eq_true qx1
     have px2:0≤(x5_1:Int):=of_decide_eq_true (by first | (with_reducible assumption) | assumption)
     have qx2:x5_1<(l1.length:Int):=of_decide_eq_true (by first | (with_reducible assumption) | assumption)
     obtain⟨adx2,ex2,hxx4,hxx5,hxx6⟩:=at_T170 HR1.out x5_1 px2 qx2
     have hwx4:=hxx6
     have hwx5:=hxx5
     have hwx6:=hxx4
     cases ex2
     replace hxx4:=(HB.out.cell (World.block_lt_of_cell? w _ hxx4)).trans hxx4
     replace hxx5:=(HB.out.cell (World.block_lt_of_cell? w _ hxx5)).trans hxx5
     replace hxx6:=(HB.out.cell (World.block_lt_of_cell? w _ hxx6)).trans hxx6
     replace px2:=eq_true px2
     replace qx2:=eq_true qx2
     refine start_ (n:=10) (S:=fun w'=>w'.cell? (adx1.add ((x5_1).toNat * 3))=some (.int .i64 ((rd_T170 l0 x5_1).f0))∧w'.cell? ⟨(adx1.add ((x5_1).toNat * 3)).block,(adx1.add ((x5_1).toNat * 3)).off+1,none⟩=some (.int .i64 ((rd_T170 l0 x5_1).f1))∧w'.cell? ⟨(adx1.add ((x5_1).toNat * 3)).block,(adx1.add ((x5_1).toNat * 3)).off+2,none⟩=some (.int .i64 ((rd_T170 l0 x5_1).f2))∧w'.cell? (adx2.add ((x5_1).toNat * 3))=some (.int .i64 ((rd_T170 l1 x5_1).f0))∧w'.cell? ⟨(adx2.add ((x5_1).toNat * 3)).block,(adx2.add ((x5_1).toNat * 3)).off+1,none⟩=some (.int .i64 ((rd_T170 l1 x5_1).f1))∧w'.cell? ⟨(adx2.add ((x5_1).toNat * 3)).block,(adx2.add ((x5_1).toNat * 3)).off+2,none⟩=some (.int .i64 ((rd_T170 l1 x5_1).f2))) (ds:=[]) (bm 10 0) (by kernel_rfl) rfl (by kernel_rfl) ⟨((HB.out.cell (World.block_lt_of_cell? w _ hwx3)).trans hwx3),((HB.out.cell (World.block_lt_of_cell? w _ hwx2)).trans hwx2),((HB.out.cell (World.block_lt_of_cell? w _ hwx1)).trans hwx1),((HB.out.cell (World.block_lt_of_cell? w _ hwx6)).trans hwx6),((HB.out.cell (World.block_lt_of_cell? w _ hwx5)).trans hwx5),((HB.out.cell (World.block_lt_of_cell? w _ hwx4)).trans hwx4)⟩ (fun hHeld => ?_);refine with_tabW Xd.tab6 Xd.bits6 (fun HT_ HW_ => ?_)
     generalize wr.drew=wx1 at HB hxx1 hxx2 hxx3 hxx4 hxx5 hxx6 hHeld ⊢
     refine pZ 0 17 (bm 10 1) HT_.out ?_
     refine pZ 1 18 (bm 10 3) HT_.out ?_
     refine pZ 2 19 (bm 10 7) HT_.out ?_
     refine pZ 4 21 (bm 10 23) HT_.out ?_
     refine pZ 5 22 (bm 10 55) HT_.out ?_
     refine pZ 6 23 (bm 10 119) HT_.out ?_
     refine tZ 3 20 (bm 10 127) HT_.out HW_.out hHeld ?_
     refine tZ 7 24 (bm 10 255) HT_.out HW_.out hHeld ?_
     by_cases c8:t103=true
     ·subst c8
      rw[if_pos rfl] at H
      have H':=Aside0.mk H
      clear H
      refine oZ 8 (some 25) (bm 10 511) HT_.out (fun K hK => ?_)
      refine goesN Try.func169 #[.agg #[.int .i64 ((rd_T170 l0 x5_1).f0),.int .i64 ((rd_T170 l0 x5_1).f1),.int .i64 ((rd_T170 l0 x5_1).f2)],.agg #[.int .i64 ((rd_T170 l1 x5_1).f0),.int .i64 ((rd_T170 l1 x5_1).f1),.int .i64 ((rd_T170 l1 x5_1).f2)]] ?_
      with_reducible refine(Xad.calls ((rd_T170 l0 x5_1).f0) ((rd_T170 l0 x5_1).f1) ((rd_T170 l0 x5_1).f2) ((rd_T170 l1 x5_1).f0) ((rd_T170 l1 x5_1).f1) ((rd_T170 l1 x5_1).f2) true _ A7.out).mono ?_
      rintro e wx2 ⟨rfl,hb⟩
      refine⟨_,rfl,?_⟩
      replace HB:=Aside0.mk (below_step (hX HB.out) hb)
      (try clear hb)
      (try clear hb2)
      (try clear hk)
      (try clear hi)
      refine hK.out _ _ ⟨((HB.out.cell (World.block_lt_of_cell? w _ hwx3)).trans hwx3),((HB.out.cell (World.block_lt_of_cell? w _ hwx2)).trans hwx2),((HB.out.cell (World.block_lt_of_cell? w _ hwx1)).trans hwx1),((HB.out.cell (World.block_lt_of_cell? w _ hwx6)).trans hwx6),((HB.out.cell (World.block_lt_of_cell? w _ hwx5)).trans hwx5),((HB.out.cell (World.block_lt_of_cell? w _ hwx4)).trans hwx4)⟩ (fun hHeld => ?_)
      clear hK K
      refine nZ 25 ?_
      refine pZ 9 26 (bm 10 1023) HT_.out ?_
      refine done_ (done_of HT_.out (by kernel_rfl)) ?_
      try go_wp2
      go_roundg k1
      case measure=>have:=HKy1.out;omega
      case rel=>exact⟨(wrap64 (x5_1+1)),rS,H',⟨by have:=HKy1.out;omega⟩,⟨(hX HB.out)⟩⟩
     ·replace c8:=Bool.eq_false_iff.mpr c8
      subst c8
      rw[if_neg nft] at H
      obtain rfl:=Option.some.inj H
      refine oZ 8 (some 25) (bm 10 511) HT_.out (fun K hK => ?_)
      refine goesN Try.func169 #[.agg #[.int .i64 ((rd_T170 l0 x5_1).f0),.int .i64 ((rd_T170 l0 x5_1).f1),.int .i64 ((rd_T170 l0 x5_1).f2)],.agg #[.int .i64 ((rd_T170 l1 x5_1).f0),.int .i64 ((rd_T170 l1 x5_1).f1),.int .i64 ((rd_T170 l1 x5_1).f2)]] ?_
      with_reducible refine(Xad.calls ((rd_T170 l0 x5_1).f0) ((rd_T170 l0 x5_1).f1) ((rd_T170 l0 x5_1).f2) ((rd_T170 l1 x5_1).f0) ((rd_T170 l1 x5_1).f1) ((rd_T170 l1 x5_1).f2) false _ A7.out).mono ?_
      rintro e wx2 ⟨rfl,hb⟩
      refine⟨_,rfl,?_⟩
      replace HB:=Aside0.mk (below_step (hX HB.out) hb)
      (try clear hb)
      (try clear hb2)
      (try clear hk)
      (try clear hi)
      refine hK.out _ _ ⟨((HB.out.cell (World.block_lt_of_cell? w _ hwx3)).trans hwx3),((HB.out.cell (World.block_lt_of_cell? w _ hwx2)).trans hwx2),((HB.out.cell (World.block_lt_of_cell? w _ hwx1)).trans hwx1),((HB.out.cell (World.block_lt_of_cell? w _ hwx6)).trans hwx6),((HB.out.cell (World.block_lt_of_cell? w _ hwx5)).trans hwx5),((HB.out.cell (World.block_lt_of_cell? w _ hwx4)).trans hwx4)⟩ (fun hHeld => ?_)
      clear hK K
      refine nZ 25 ?_
      refine pZ 9 26 (bm 10 1023) HT_.out ?_
      refine done_ (done_of HT_.out (by kernel_rfl)) ?_
      try go_wp2
      go_ret
      exact⟨rE,(hX HB.out)⟩
    ·rw[if_neg c4] at H
     have c4b0:=decide_eq_false c4
     clear c4
     obtain rfl:=Option.some.inj H
     go_wp2
     go_ret
     exact⟨rE,(hX HB.out)⟩
 ·rw[if_neg c3] at H
  obtain⟨c3b0,c3b1⟩:=eqF c3
  have c3b2:(l0.length == l1.length)=false:=by first | simpa using c3 | (simp at c3 ⊢;omega)
  obtain rfl:=Option.some.inj H
  go_wp2
  go_ret
  exact⟨rE,(hX HB.out)⟩
def Xc.l0:Nat→List (S200)→List (S200)→Int→Option (Bool)
 | 0,_,_,_=>none
 | k+1,x0,x1,x5=>if x5<(x0.length:Int) then (if 0≤x5 then (if x5<(x1.length:Int) then ((X5.f ((rd_T200 x0 x5).f0) ((rd_T200 x0 x5).f1) ((rd_T200 x0 x5).f2) ((rd_T200 x1 x5).f0) ((rd_T200 x1 x5).f1) ((rd_T200 x1 x5).f2)).bind fun t103=>(if t103=true then (Xc.l0 k x0 x1 (wrap64 (x5+1))) else (some false))) else (none)) else (none)) else (some true)
def Xc.f (k:Nat) (l0:List (S200)) (l1:List (S200)):Option (Bool):=if (l0.length:Int)=(l1.length:Int) then (Xc.l0 k l0 l1 0) else (some false)
def Xc.T6:Bool × List (List Nat × List Nat):=(true,[([],[]),([],[]),([0,1],[0,1]),([2],[2]),([],[]),([],[]),([4,5],[4,5]),([6],[6]),([3,7],[3,7]),([8],[8])])
def Xc.B6:List Nat:=[0,0,3,7,0,0,48,112,255,511]
theorem Xc.tab6:rtab .any (opsOf Try.f182 6)=Xc.T6:=by kernel_rfl
theorem Xc.bits6:waitsOk Xc.T6.2 Xc.B6=true:=by kernel_rfl
theorem Xc.calls (k:Nat) (A0:Option Addr) (c0:Nat) (l0:List (S200)) (A1:Option Addr) (c1:Nat) (l1:List (S200)) (r:Bool) (w:World) (hr0:Kd.C k200 w A0 l0.length l0) (hc0:l0.length≤c0) (hr1:Kd.C k200 w A1 l1.length l1) (hc1:l1.length≤c1) (h:Xc.f k l0 l1=some r) :
  Calls Try.prog 182 #[.slice A0 l0.length c0,.slice A1 l1.length c1] w fun e w'=>e = .returned (.bool r)∧Below w.heap.size w w':=by
 have hu200:=Try.underlying200
 have HR0:=Aside0.mk hr0
 have HC0:=Aside0.mk hc0
 clear hr0 hc0
 have HR1:=Aside0.mk hr1
 have HC1:=Aside0.mk hc1
 clear hr1 hc1
 have HB:=Aside0.mk (Below.refl w.heap.size w)
 have H:=h
 unfold Xc.f at H
 clear h
 go_enter Try.func182,Try.ntmps182
 by_cases c3:(l0.length:Int)=(l1.length:Int)
 ·rw[if_pos c3] at H
  obtain⟨c3b0,c3b1⟩:=eqT c3
  have c3b2:(l0.length == l1.length)=true:=by first | simpa using c3 | (simp at c3 ⊢;omega)
  clear c3
  have H':=Aside0.mk H
  clear H
  go_wp2
  go_loopg [5] k (fun kq v5 w'=>∃ (x5_1:Int),v5 = .int .i64 x5_1∧Aside0 (Xc.l0 kq l0 l1 x5_1=some r)∧Aside0 (kq≤k)∧Aside0 (Below w.heap.size w w'))
  case atStart=>exact⟨(0),rS,H',⟨Nat.le_refl _⟩,⟨(hX HB.out)⟩⟩
  case round =>
   clear H'
   try clear c1
   try clear p2
   try clear c3
   try clear c3b0
   try clear c3b1
   try clear c3b2
   obtain⟨x5_1,rfl,HA,HKy1,HB⟩:=hrel
   cases gk with
   | zero=>exact absurd HA.out (by simp[Xc.l0])
   | succ k1 =>
    have H:=HA.out
    clear HA
    simp only[Xc.l0] at H
    by_cases c4:x5_1<(l0.length:Int)
    ·rw[if_pos c4] at H
     have c4b0:=decide_eq_true c4
     clear c4
     replace H:=ifP H;obtain⟨c5,H⟩:=H
     have c5b0:=decide_eq_true c5
     clear c5
     replace H:=ifP H;obtain⟨c6,H⟩:=H
     have c6b0:=decide_eq_true c6
     clear c6
     replace H:=bE H;obtain⟨t103,A7,H⟩:=H
     try go_wp2
     replace HB:=Aside0.mk (below_drew1 HB.out)
     have px1:0≤(x5_1:Int):=of_decide_eq_true (by first | (with_reducible assumption) | assumption)
     have qx1:x5_1<(l0.length:Int):=of_decide_eq_true (by first | (with_reducible assumption) | assumption)
     obtain⟨adx1,ex1,hxx1,hxx2,hxx3⟩:=at_T200 HR0.out x5_1 px1 qx1
     have hwx1:=hxx3
     have hwx2:=hxx2
     have hwx3:=hxx1
     cases ex1
     replace hxx1:=(HB.out.cell (World.block_lt_of_cell? w _ hxx1)).trans hxx1
     replace hxx2:=(HB.out.cell (World.block_lt_of_cell? w _ hxx2)).trans hxx2
     replace hxx3:=(HB.out.cell (World.block_lt_of_cell? w _ hxx3)).trans hxx3
     replace px1:=eq_true px1
     replace qx1:=eq_true qx1
     have px2:0≤(x5_1:Int):=of_decide_eq_true (by first | (with_reducible assumption) | assumption)
     have qx2:x5_1<(l1.length:Int):=of_decide_eq_true (by first | (with_reducible assumption) | assumption)
     obtain⟨adx2,ex2,hxx4,hxx5,hxx6⟩:=at_T200 HR1.out x5_1 px2 qx2
     have hwx4:=hxx6
     have hwx5:=hxx5
     have hwx6:=hxx4
     cases ex2
     replace hxx4:=(HB.out.cell (World.block_lt_of_cell? w _ hxx4)).trans hxx4
     replace hxx5:=(HB.out.cell (World.block_lt_of_cell? w _ hxx5)).trans hxx5
     replace hxx6:=(HB.out.cell (World.block_lt_of_cell? w _ hxx6)).trans hxx6
     replace px2:=eq_true px2
     replace qx2:=eq_true qx2
     refine start_ (n:=10) (S:=fun w'=>w'.cell? (adx1.add ((x5_1).toNat * 3))=some (.int .i64 ((rd_T200 l0 x5_1).f0))∧w'.cell? ⟨(adx1.add ((x5_1).toNat * 3)).block,(adx1.add ((x5_1).toNat * 3)).off+1,none⟩=some (.int .i64 ((rd_T200 l0 x5_1).f1))∧w'.cell? ⟨(adx1.add ((x5_1).toNat * 3)).block,(adx1.add ((x5_1).toNat * 3)).off+2,none⟩=some (.int .i64 ((rd_T200 l0 x5_1).f2))∧w'.cell? (adx2.add ((x5_1).toNat * 3))=some (.int .i64 ((rd_T200 l1 x5_1).f0))∧w'.cell? ⟨(adx2.add ((x5_1).toNat * 3)).block,(adx2.add ((x5_1).toNat * 3)).off+1,none⟩=some (.int .i64 ((rd_T200 l1 x5_1).f1))∧w'.cell? ⟨(adx2.add ((x5_1).toNat * 3)).block,(adx2.add ((x5_1).toNat * 3)).off+2,none⟩=some (.int .i64 ((rd_T200 l1 x5_1).f2))) (ds:=[]) (bm 10 0) (by kernel_rfl) rfl (by kernel_rfl) ⟨((HB.out.cell (World.block_lt_of_cell? w _ hwx3)).trans hwx3),((HB.out.cell (World.block_lt_of_cell? w _ hwx2)).trans hwx2),((HB.out.cell (World.block_lt_of_cell? w _ hwx1)).trans hwx1),((HB.out.cell (World.block_lt_of_cell? w _ hwx6)).trans hwx6),((HB.out.cell (World.block_lt_of_cell? w _ hwx5)).trans hwx5),((HB.out.cell (World.block_lt_of_cell? w _ hwx4)).trans hwx4)⟩ (fun hHeld => ?_);refine with_tabW Xc.tab6 Xc.bits6 (fun HT_ HW_ => ?_)
     generalize wr.drew=wx1 at HB hxx1 hxx2 hxx3 hxx4 hxx5 hxx6 hHeld ⊢
     refine pZ 0 17 (bm 10 1) HT_.out ?_
     refine pZ 1 18 (bm 10 3) HT_.out ?_
     refine pZ 2 19 (bm 10 7) HT_.out ?_
     refine pZ 4 21 (bm 10 23) HT_.out ?_
     refine pZ 5 22 (bm 10 55) HT_.out ?_
     refine pZ 6 23 (bm 10 119) HT_.out ?_
     refine tZ 3 20 (bm 10 127) HT_.out HW_.out hHeld ?_
     refine tZ 7 24 (bm 10 255) HT_.out HW_.out hHeld ?_
     by_cases c8:t103=true
     ·subst c8
      rw[if_pos rfl] at H
      have H':=Aside0.mk H
      clear H
      refine oZ 8 (some 25) (bm 10 511) HT_.out (fun K hK => ?_)
      refine goesN Try.func186 #[.agg #[.int .i64 ((rd_T200 l0 x5_1).f0),.int .i64 ((rd_T200 l0 x5_1).f1),.int .i64 ((rd_T200 l0 x5_1).f2)],.agg #[.int .i64 ((rd_T200 l1 x5_1).f0),.int .i64 ((rd_T200 l1 x5_1).f1),.int .i64 ((rd_T200 l1 x5_1).f2)]] ?_
      with_reducible refine(X5.calls ((rd_T200 l0 x5_1).f0) ((rd_T200 l0 x5_1).f1) ((rd_T200 l0 x5_1).f2) ((rd_T200 l1 x5_1).f0) ((rd_T200 l1 x5_1).f1) ((rd_T200 l1 x5_1).f2) true _ A7.out).mono ?_
      rintro e wx2 ⟨rfl,hb⟩
      refine⟨_,rfl,?_⟩
      replace HB:=Aside0.mk (below_step (hX HB.out) hb)
      (try clear hb)
      (try clear hb2)
      (try clear hk)
      (try clear hi)
      refine hK.out _ _ ⟨((HB.out.cell (World.block_lt_of_cell? w _ hwx3)).trans hwx3),((HB.out.cell (World.block_lt_of_cell? w _ hwx2)).trans hwx2),((HB.out.cell (World.block_lt_of_cell? w _ hwx1)).trans hwx1),((HB.out.cell (World.block_lt_of_cell? w _ hwx6)).trans hwx6),((HB.out.cell (World.block_lt_of_cell? w _ hwx5)).trans hwx5),((HB.out.cell (World.block_lt_of_cell? w _ hwx4)).trans hwx4)⟩ (fun hHeld => ?_)
      clear hK K
      refine nZ 25 ?_
      refine pZ 9 26 (bm 10 1023) HT_.out ?_
      refine done_ (done_of HT_.out (by kernel_rfl)) ?_
      try go_wp2
      go_roundg k1
      case measure=>have:=HKy1.out;omega
      case rel=>exact⟨(wrap64 (x5_1+1)),rS,H',⟨by have:=HKy1.out;omega⟩,⟨(hX HB.out)⟩⟩
     ·replace c8:=Bool.eq_false_iff.mpr c8
      subst c8
      rw[if_neg nft] at H
      obtain rfl:=Option.some.inj H
      refine oZ 8 (some 25) (bm 10 511) HT_.out (fun K hK => ?_)
      refine goesN Try.func186 #[.agg #[.int .i64 ((rd_T200 l0 x5_1).f0),.int .i64 ((rd_T200 l0 x5_1).f1),.int .i64 ((rd_T200 l0 x5_1).f2)],.agg #[.int .i64 ((rd_T200 l1 x5_1).f0),.int .i64 ((rd_T200 l1 x5_1).f1),.int .i64 ((rd_T200 l1 x5_1).f2)]] ?_
      with_reducible refine(X5.calls ((rd_T200 l0 x5_1).f0) ((rd_T200 l0 x5_1).f1) ((rd_T200 l0 x5_1).f2) ((rd_T200 l1 x5_1).f0) ((rd_T200 l1 x5_1).f1) ((rd_T200 l1 x5_1).f2) false _ A7.out).mono ?_
      rintro e wx2 ⟨rfl,hb⟩
      refine⟨_,rfl,?_⟩
      replace HB:=Aside0.mk (below_step (hX HB.out) hb)
      (try clear hb)
      (try clear hb2)
      (try clear hk)
      (try clear hi)
      refine hK.out _ _ ⟨((HB.out.cell (World.block_lt_of_cell? w _ hwx3)).trans hwx3),((HB.out.cell (World.block_lt_of_cell? w _ hwx2)).trans hwx2),((HB.out.cell (World.block_lt_of_cell? w _ hwx1)).trans hwx1),((HB.out.cell (World.block_lt_of_cell? w _ hwx6)).trans hwx6),((HB.out.cell (World.block_lt_of_cell? w _ hwx5)).trans hwx5),((HB.out.cell (World.block_lt_of_cell? w _ hwx4)).trans hwx4)⟩ (fun hHeld => ?_)
      clear hK K
      refine nZ 25 ?_
      refine pZ 9 26 (bm 10 1023) HT_.out ?_
      refine done_ (done_of HT_.out (by kernel_rfl)) ?_
      try go_wp2
      go_ret
      exact⟨rE,(hX HB.out)⟩
    ·rw[if_neg c4] at H
     have c4b0:=decide_eq_false c4
     clear c4
     obtain rfl:=Option.some.inj H
     go_wp2
     go_ret
     exact⟨rE,(hX HB.out)⟩
 ·rw[if_neg c3] at H
  obtain⟨c3b0,c3b1⟩:=eqF c3
  have c3b2:(l0.length == l1.length)=false:=by first | simpa using c3 | (simp at c3 ⊢;omega)
  obtain rfl:=Option.some.inj H
  go_wp2
  go_ret
  exact⟨rE,(hX HB.out)⟩
end Go.Proofs.Yteamagejhbkhnaa.P
