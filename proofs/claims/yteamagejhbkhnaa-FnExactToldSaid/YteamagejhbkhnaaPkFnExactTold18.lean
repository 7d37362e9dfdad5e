/- A part of the proof of the law FnExactTold: texts of this seat, merged (words, printed functions of the program, plain lemmas). Conditions: none of its own. -/
import Derived.Test.YteamagejhbkhnaaPkFnExactTold14
import Derived.Test.YteamagejhbkhnaaPkFnExactTold15
set_option linter.unusedSimpArgs false
set_option linter.unusedVariables false
set_option maxHeartbeats 8000000
set_option maxRecDepth 100000
namespace Go.Proofs.Yteamagejhbkhnaa.P
open Go.Proofs.YteamagejhbkhnaaZ Go.RowKit Go.Proofs.YteamagejhbkhnaaW.PrintWords Go.Proofs.YteamagejhbkhnaaW.PrintLast Go.Proofs.YteamagejhbkhnaaW.PrintMore
attribute [local go_sem] max2_int min2_int max_two min_two max_three min_three max_four min_four   -- for this text's walks alone
def Xj.l0:Nat→List (S139)→List (S146)→Int→Option ((List (S146)))
 | 0,_,_,_=>none
 | k+1,x0,x3,x4=>if x4<(x0.length:Int) then (if 0≤x4 then ((XY.f k ((rd_T139 x0 x4).f0) ((rd_T139 x0 x4).f1) ((rd_T139 x0 x4).f2) ((rd_T139 x0 x4).f3) ((rd_T139 x0 x4).f4)).bind fun bt105=>(if x4<(x3.length:Int) then (Xj.l0 k x0 (x3.set (x4:Int).toNat (⟨bt105.1,bt105.2.1,bt105.2.2.1,bt105.2.2.2.1,bt105.2.2.2.2⟩:S146)) (wrap64 (x4+1))) else (none))) else (none)) else (some x3)
def Xj.f (k:Nat) (l0:List (S139)):Option ((List (S146))):=if 0≤(l0.length:Int) then (if ((l0.length:Int):Int).toNat≤3198579280802 then (Xj.l0 k l0 (List.replicate ((l0.length:Int):Int).toNat z146) 0) else (none)) else (none)
theorem Xj.calls (k:Nat) (A0:Option Addr) (c0:Nat) (l0:List (S139)) (r:List (S146)) (w:World) (hr0:Kd.C k139 w A0 l0.length l0) (hc0:l0.length≤c0) (h:Xj.f k l0=some r) :
  Calls Try.prog 118 #[.slice A0 l0.length c0] w fun e w'=>∃ v0_:Value,e = .returned (v0_)∧Kd.S k146 146 w' w.heap.size (fun _=>True) v0_ r∧Below w.heap.size w w':=by
 have hu139:=Try.underlying139
 have hu146:=Try.underlying146
 have HR0:=Aside0.mk hr0
 have HC0:=Aside0.mk hc0
 clear hr0 hc0
 have HB:=Aside0.mk (Below.refl w.heap.size w)
 have H:=h
 unfold Xj.f at H
 clear h
 replace H:=ifP H;obtain⟨c2,H⟩:=H
 have c2b0:=eq_true c2
 have c2b1:=decide_eq_true c2
 clear c2
 replace H:=ifP H;obtain⟨c3,H⟩:=H
 have c3b0:=eq_true c3
 have c3b1:=decide_eq_true c3
 clear c3
 obtain⟨y101,hy101⟩:∃ y_:List (S146),y_=(List.replicate ((l0.length:Int):Int).toNat z146):=⟨_,rfl⟩
 replace H:(Xj.l0 k l0 y101 0)=some r:=yH H hy101
 have Ny101:=Aside0.mk hy101
 clear hy101
 have H':=Aside0.mk H
 clear H
 go_enter Try.func118,Try.ntmps118
 go_wp2_with (first | ((with_reducible refine gate_dst (N:=7) rfl ?_);refine Kd.S_make k146 _ 146 rfl (N:=7) rfl 85 _ _ rfl (l0.length:Int) rfl rfl Try.underlying85 (.agg #[(.slice none 0 0),(.int .i64 0),(.bool false),(.slice none 0 0),(.slice none 0 0)]) 88 info146 rfl (by decide) (by omega) z146 (ok:=fun _=>True) (okp:=fun _=>True) (k146_mkM _ _ _ z146 (Kd.R_nil _ _ _ _ _) (Kd.R_nil _ _ _ _ _) (Kd.R_nil _ _ _ _ _)) (fun _ hk=>hk) trivial (of_decide_eq_true (by first | (with_reducible assumption) | assumption)) (Nat.le_trans (Nat.mul_le_mul_right _ (of_decide_eq_true (by first | (with_reducible assumption) | assumption):(l0.length:Int).toNat≤3198579280802)) (by omega)) (Below.refl _ _) (Nat.le_refl _) ?_;intro vz1 wz1 hoz1 hb hg_ hnew_;clear hg_ hnew_;(first | rw[← Ny101.out] at hoz1 | (simp only[Int.reduceToNat] at hoz1;rw[← Ny101.out] at hoz1));have HOz1:=Aside0.mk (Kd.S_lower hoz1 (below_size (hX HB.out)));replace HB:=Aside0.mk (below_step (hX HB.out) hb);clear hb hoz1))
 go_loopg [4] k (fun kq v4 w'=>∃ (x3_1:List (S146)) (x4_1:Int),v4 = .int .i64 x4_1∧Aside0 (Xj.l0 kq l0 x3_1 x4_1=some r)∧Aside0 (kq≤k)∧Aside0 (Kd.S k146 146 w' w.heap.size (fun _=>True) vz1 x3_1)∧Aside0 (Below w.heap.size w w'))
 case atStart=>exact⟨(y101),(0),rS,H',⟨Nat.le_refl _⟩,⟨(sX HOz1.out)⟩,⟨(hX HB.out)⟩⟩
 case round =>
  clear H'
  try clear c1
  try clear c2
  try clear c2b0
  try clear c2b1
  try clear p2
  try clear c3
  try clear c3b0
  try clear c3b1
  obtain⟨x3_1,x4_1,rfl,HA,HKy1,HO_y1,HB⟩:=hrel
  cases gk with
  | zero=>exact absurd HA.out (by simp[Xj.l0])
  | succ k1 =>
   have H:=HA.out
   clear HA
   simp only[Xj.l0] at H
   by_cases c6:x4_1<(l0.length:Int)
   ·rw[if_pos c6] at H
    have c6b0:=decide_eq_true c6
    clear c6
    replace H:=ifP H;obtain⟨c7,H⟩:=H
    have c7b0:=decide_eq_true c7
    clear c7
    replace H:=bE H;obtain⟨⟨t105,t108,t109,t110,t113⟩,A8,H⟩:=H
    try dsimp only at H
    replace H:=ifP H;obtain⟨c9,H⟩:=H
    have c9b0:=decide_eq_true c9
    clear c9
    obtain⟨y116,hy116⟩:∃ y_:List (S146),y_=(x3_1.set (x4_1:Int).toNat (⟨t105,t108,t109,t110,t113⟩:S146)):=⟨_,rfl⟩
    replace H:(Xj.l0 k1 l0 y116 (wrap64 (x4_1+1)))=some r:=yH H hy116
    have Ny116:=Aside0.mk hy116
    clear hy116
    have H':=Aside0.mk H
    clear H
    have px1:0≤(x4_1:Int):=of_decide_eq_true (by first | (with_reducible assumption) | assumption)
    have qx1:x4_1<(l0.length:Int):=of_decide_eq_true (by first | (with_reducible assumption) | assumption)
    obtain⟨adx1,Ax1,cx1,Ax2,cx2,Ax3,cx3,ex1,hxx1,hxx2,hxx3,hxx4,hxx5,hlx1,hix1,hlx2,hix2,hlx3,hix3⟩:=at_T139 HR0.out x4_1 px1 qx1
    cases ex1
    replace hxx1:=(HB.out.cell (World.block_lt_of_cell? w _ hxx1)).trans hxx1
    replace hxx2:=(HB.out.cell (World.block_lt_of_cell? w _ hxx2)).trans hxx2
    replace hxx3:=(HB.out.cell (World.block_lt_of_cell? w _ hxx3)).trans hxx3
    replace hxx4:=(HB.out.cell (World.block_lt_of_cell? w _ hxx4)).trans hxx4
    replace hxx5:=(HB.out.cell (World.block_lt_of_cell? w _ hxx5)).trans hxx5
    have HRx1:=Aside0.mk hix1
    have HCx1:=Aside0.mk hlx1
    clear hix1 hlx1
    have HRx2:=Aside0.mk hix2
    have HCx2:=Aside0.mk hlx2
    clear hix2 hlx2
    have HRx3:=Aside0.mk hix3
    have HCx3:=Aside0.mk hlx3
    clear hix3 hlx3
    replace px1:=eq_true px1
    replace qx1:=eq_true qx1
    go_wp2_with (first | ((with_reducible refine gate_callee (f:=143) rfl ?_);refine goesM 143 20 Try.func143 #[.agg #[.slice Ax1 ((rd_T139 l0 x4_1).f0).length cx1,.int .i64 ((rd_T139 l0 x4_1).f1),.bool ((rd_T139 l0 x4_1).f2),.slice Ax2 ((rd_T139 l0 x4_1).f3).length cx2,.slice Ax3 ((rd_T139 l0 x4_1).f4).length cx3]] ?_;refine(XY.calls k1 _ _ ((rd_T139 l0 x4_1).f0) ((rd_T139 l0 x4_1).f1) ((rd_T139 l0 x4_1).f2) _ _ ((rd_T139 l0 x4_1).f3) _ _ ((rd_T139 l0 x4_1).f4) t105 t108 t109 t110 t113 _ (cC HRx1.out HB.out) HCx1.out (cC HRx2.out HB.out) HCx2.out (cC HRx3.out HB.out) HCx3.out A8.out).mono ?_;rintro e wx1 ⟨vx1,vx2,vx3,rfl,hox1,hox2,hox3,hb⟩;refine⟨_,rfl,?_⟩;have HOx1:=Aside0.mk (Kd.R_lower hox1 (below_size (hX HB.out)));have HOx2:=Aside0.mk (Kd.R_lower hox2 (below_size (hX HB.out)));have HOx3:=Aside0.mk (Kd.R_lower hox3 (below_size (hX HB.out)));replace HO_y1:=Aside0.mk (Kd.S_mono (Kd.S_told (Kd.S_told (Kd.S_told (Kd.S_old (sX HO_y1.out) hb) (Kd.R_base hox1)) (Kd.R_base hox2)) (Kd.R_base hox3)) (fun _ h_=>h_.1));replace HB:=Aside0.mk (below_step (hX HB.out) hb);clear hb hox1 hox2 hox3;have px2:0≤(x4_1:Int):=of_decide_eq_true (by first | (with_reducible assumption) | assumption);have qx2:(x4_1:Int)<((x3_1.length:Int):Int):=of_decide_eq_true (by first | (with_reducible assumption) | assumption);obtain⟨gox1,cox1,eox1,gbx1,glx1,clx1,HGx1⟩:=Kd.S_form HO_y1.out (by omega);(first | cases eox1 | (injection eox1 with ea_ en_ ec_;(first | subst ea_ | (injection ea_ with ea_;subst ea_));subst ec_;clear en_));have GBx1:=Aside0.mk gbx1;have GGx1:=Aside0.mk HGx1;clear gbx1 glx1 HGx1;obtain⟨_,cex1,hclx1,hMx1,hccx1,hfrx1,_,_⟩:=Kd.S_elem HO_y1.out z146 (x4_1:Int) px2 qx2;obtain⟨vex1,vex2,vex3,rfl,gex1,gex2,gex3⟩:=k146_openM hMx1;have hxx6:wx1.cell? ⟨gox1,(x4_1:Int).toNat * 5,none⟩=some (vex1):=hccx1 0 _ rfl;have hxx7:wx1.cell? ⟨gox1,(x4_1:Int).toNat * 5+1,none⟩=some (.int .i64 ((rd_T146 x3_1 x4_1).f1)):=hccx1 1 _ rfl;have hxx8:wx1.cell? ⟨gox1,(x4_1:Int).toNat * 5+2,none⟩=some (.bool ((rd_T146 x3_1 x4_1).f2)):=hccx1 2 _ rfl;have hxx9:wx1.cell? ⟨gox1,(x4_1:Int).toNat * 5+3,none⟩=some (vex2):=hccx1 3 _ rfl;have hxx10:wx1.cell? ⟨gox1,(x4_1:Int).toNat * 5+4,none⟩=some (vex3):=hccx1 4 _ rfl;have hfx1:wx1.frozen? ⟨gox1,(x4_1:Int).toNat * 5,none⟩=false:=hfrx1 0;have hfx2:wx1.frozen? ⟨gox1,(x4_1:Int).toNat * 5+1,none⟩=false:=hfrx1 1;have hfx3:wx1.frozen? ⟨gox1,(x4_1:Int).toNat * 5+2,none⟩=false:=hfrx1 2;have hfx4:wx1.frozen? ⟨gox1,(x4_1:Int).toNat * 5+3,none⟩=false:=hfrx1 3;have hfx5:wx1.frozen? ⟨gox1,(x4_1:Int).toNat * 5+4,none⟩=false:=hfrx1 4;clear hclx1 hccx1 hfrx1 hMx1;replace px2:=eq_true px2;replace qx2:=eq_true qx2;obtain⟨Aox1,cox2,eox2⟩:=Kd.R_slice HOx1.out;subst eox2;obtain⟨Aox2,cox3,eox3⟩:=Kd.R_slice HOx2.out;subst eox3;obtain⟨Aox3,cox4,eox4⟩:=Kd.R_slice HOx3.out;subst eox4;have n_:=Aside0.mk (Kd.S_mono (ok':=(fun k_=>some k_ ≠ (.slice Aox1 t105.length cox2:Value).ownBlock∧some k_ ≠ (.slice Aox2 t110.length cox3:Value).ownBlock∧some k_ ≠ (.slice Aox3 t113.length cox4:Value).ownBlock)) HO_y1.out (fun k_ hk=>⟨hk.1.1.2,⟨hk.1.2,hk.2⟩⟩));clear HO_y1;have HO_y1:=n_;clear n_;have HXx1:=Aside0.mk (show Kd.S k146 146 wx1 w.heap.size (fun k_=>((fun _=>True)) k_∧¬ ((fun k_=>some k_=(.slice Aox1 t105.length cox2:Value).ownBlock ∨ some k_=(.slice Aox2 t110.length cox3:Value).ownBlock ∨ some k_=(.slice Aox3 t113.length cox4:Value).ownBlock)) k_) (.slice (some ⟨gox1,0,none⟩) x3_1.length cox1) x3_1 from (by (with_reducible repeat (first | apply Kd.S_alloc | apply Kd.S_drewN | apply Kd.S_drew));exact Kd.S_mono HO_y1.out (fun k_ hk=>⟨trivial,fun e_=>e_.elim (fun h_=>hk.1 h_) (fun h_=>h_.elim (fun h_=>hk.2.1 h_) (fun h_=>hk.2.2 h_))⟩)));obtain⟨okix1,cex2,hclx2,hMx2,hccx2,hfrx2,hokix1,hHx1⟩:=Kd.S_elem HXx1.out z146 (x4_1:Int) (of_decide_eq_true (by first | (with_reducible assumption) | assumption)) (by have h_:(x4_1:Int)<((x3_1.length:Int):Int):=of_decide_eq_true (by first | (with_reducible assumption) | assumption);first | exact h_ | (have e_:=(Kd.S_reads' HO_y1.out).1;omega) | simpa using h_);obtain⟨vex4,vex5,vex6,rfl,gex4,gex5,gex6⟩:=k146_openM hMx2;have HPx1:=Kd.S_seg hHx1 (of_decide_eq_true (by first | (with_reducible assumption) | assumption)) (by have h_:(x4_1:Int)<((x3_1.length:Int):Int):=of_decide_eq_true (by first | (with_reducible assumption) | assumption);first | exact h_ | (have e_:=(Kd.S_reads' HO_y1.out).1;omega) | simpa using h_) (seg:=[.slice Aox1 t105.length cox2,.int .i64 t108,.bool t109,.slice Aox2 t110.length cox3,.slice Aox3 t113.length cox4]) (j:=0) (show 5≤5 from by decide) (x':=(⟨t105,t108,t109,t110,t113⟩:S146)) (k146_mkM _ _ _ (⟨t105,t108,t109,t110,t113⟩:S146) (Kd.R_mono (Kd.R_tight rfl (Kd.R_mono (ok':=fun k_=>((fun _=>True)) k_∧k_ ≠ gox1) (Kd.R_apart' (HOx1.out) (Kd.S_typed HO_y1.out) (by decide)) (fun k_ hk=>⟨trivial,fun e_=>(hk.2) (by rw[e_];rfl)⟩))) (fun _ h_=>Or.inr (Or.inl h_))) (Kd.R_mono (Kd.R_tight rfl (Kd.R_mono (ok':=fun k_=>((fun _=>True)) k_∧k_ ≠ gox1) (Kd.R_apart' (HOx2.out) (Kd.S_typed HO_y1.out) (by decide)) (fun k_ hk=>⟨trivial,fun e_=>(hk.2) (by rw[e_];rfl)⟩))) (fun _ h_=>Or.inr (Or.inr (Or.inl h_)))) (Kd.R_mono (Kd.R_tight rfl (Kd.R_mono (ok':=fun k_=>((fun _=>True)) k_∧k_ ≠ gox1) (Kd.R_apart' (HOx3.out) (Kd.S_typed HO_y1.out) (by decide)) (fun k_ hk=>⟨trivial,fun e_=>(hk.2) (by rw[e_];rfl)⟩))) (fun _ h_=>Or.inr (Or.inr (Or.inr (h_)))))) (fun _ hk=>hk) (fun k_ hk_=>hk_.elim (fun h_=>((Kd.R_mono (ok':=fun k_=>((fun _=>True)) k_∧k_ ≠ gox1) (Kd.R_apart' (HOx1.out) (Kd.S_typed HO_y1.out) (by decide)) (fun k_ hk=>⟨trivial,fun e_=>(hk.2) (by rw[e_];rfl)⟩))).1 k_ h_.symm) (fun h_=>h_.elim (fun h_=>((Kd.R_mono (ok':=fun k_=>((fun _=>True)) k_∧k_ ≠ gox1) (Kd.R_apart' (HOx2.out) (Kd.S_typed HO_y1.out) (by decide)) (fun k_ hk=>⟨trivial,fun e_=>(hk.2) (by rw[e_];rfl)⟩))).1 k_ h_.symm) (fun h_=>((Kd.R_mono (ok':=fun k_=>((fun _=>True)) k_∧k_ ≠ gox1) (Kd.R_apart' (HOx3.out) (Kd.S_typed HO_y1.out) (by decide)) (fun k_ hk=>⟨trivial,fun e_=>(hk.2) (by rw[e_];rfl)⟩))).1 k_ h_.symm)));have hxx11:=hccx2 0 _ rfl;(try simp only[show (k146).sz=5 from rfl,Nat.mul_one,Nat.add_zero] at hxx11);have hfx6:=hfrx2 0;(try simp only[show (k146).sz=5 from rfl,Nat.mul_one,Nat.add_zero] at hfx6);have hxx12:=hccx2 1 _ rfl;(try simp only[show (k146).sz=5 from rfl,Nat.mul_one,Nat.add_zero] at hxx12);have hfx7:=hfrx2 1;(try simp only[show (k146).sz=5 from rfl,Nat.mul_one,Nat.add_zero] at hfx7);have hxx13:=hccx2 2 _ rfl;(try simp only[show (k146).sz=5 from rfl,Nat.mul_one,Nat.add_zero] at hxx13);have hfx8:=hfrx2 2;(try simp only[show (k146).sz=5 from rfl,Nat.mul_one,Nat.add_zero] at hfx8);have hxx14:=hccx2 3 _ rfl;(try simp only[show (k146).sz=5 from rfl,Nat.mul_one,Nat.add_zero] at hxx14);have hfx9:=hfrx2 3;(try simp only[show (k146).sz=5 from rfl,Nat.mul_one,Nat.add_zero] at hfx9);have hxx15:=hccx2 4 _ rfl;(try simp only[show (k146).sz=5 from rfl,Nat.mul_one,Nat.add_zero] at hxx15);have hfx10:=hfrx2 4;(try simp only[show (k146).sz=5 from rfl,Nat.mul_one,Nat.add_zero] at hfx10);clear hclx2 hccx2 hfrx2 hMx2 hokix1 hHx1) | ((with_reducible refine gate_store (t:=146) (p:=21) rfl ?_);refine store_event (t:=146) (p:=21) (v:=?vo_wx2) (w1:=(((((wx1.setCell ⟨gox1,(x4_1:Int).toNat * 5,none⟩ (.slice Aox1 t105.length cox2)).setCell ⟨gox1,(x4_1:Int).toNat * 5+1,none⟩ (.int .i64 t108)).setCell ⟨gox1,(x4_1:Int).toNat * 5+2,none⟩ (.bool t109)).setCell ⟨gox1,(x4_1:Int).toNat * 5+3,none⟩ (.slice Aox2 t110.length cox3)).setCell ⟨gox1,(x4_1:Int).toNat * 5+4,none⟩ (.slice Aox3 t113.length cox4))) ?hg ?ho ?hn ?hr ?_;(case ho=>rfl);(case hg=>rfl);(case hn=>rfl);(case hr=>first | (go_simp;done) | (go_simp;rfl));intro wx2 hw;have hg:wx1.grownBy wx2 (some gox1):=(by rw[hw];exact HPx1.2);have hp_:Kd.S k146 146 wx2 w.heap.size (fun _=>True) (.slice (some ⟨gox1,0,none⟩) x3_1.length cox1) y116:=(by rw[hw,Ny116.out];exact HPx1.1);clear HPx1;replace HO_y1:=Aside0.mk (hp_);replace HB:=Aside0.mk ((by rw[hw];exact below_set (below_set (below_set (below_set (below_set (HB.out) GBx1.out) GBx1.out) GBx1.out) GBx1.out) GBx1.out:Below w.heap.size w wx2));clear HOx1 HOx2 HOx3;clear hg hw hp_))
    go_roundg k1
    case measure=>have:=HKy1.out;omega
    case rel=>exact⟨(y116),(wrap64 (x4_1+1)),rS,H',⟨by have:=HKy1.out;omega⟩,⟨(sX HO_y1.out)⟩,⟨(hX HB.out)⟩⟩
   ·rw[if_neg c6] at H
    have c6b0:=decide_eq_false c6
    clear c6
    obtain rfl:=Option.some.inj H
    go_wp2
    go_ret
    exact⟨_,rE,(sX HO_y1.out),(hX HB.out)⟩
def Xu.l0:Nat→List (S53)→List (S59)→Int→Option ((List (S59)))
 | 0,_,_,_=>none
 | k+1,x0,x3,x4=>if x4<(x0.length:Int) then (if 0≤x4 then ((Xaj.f k ((rd_T53 x0 x4).f0) ((rd_T53 x0 x4).f1.f0) ((rd_T53 x0 x4).f1.f1) ((rd_T53 x0 x4).f1.f2) ((rd_T53 x0 x4).f2) ((rd_T53 x0 x4).f3) ((rd_T53 x0 x4).f4) ((rd_T53 x0 x4).f5.f0) ((rd_T53 x0 x4).f5.f1)).bind fun bt105=>(if x4<(x3.length:Int) then (Xu.l0 k x0 (x3.set (x4:Int).toNat (⟨bt105.1,(⟨bt105.2.1,bt105.2.2.1,bt105.2.2.2.1⟩:S56),bt105.2.2.2.2.1,bt105.2.2.2.2.2.1,bt105.2.2.2.2.2.2.1,(⟨bt105.2.2.2.2.2.2.2.1,bt105.2.2.2.2.2.2.2.2⟩:S57)⟩:S59)) (wrap64 (x4+1))) else (none))) else (none)) else (some x3)
def Xu.f (k:Nat) (l0:List (S53)):Option ((List (S59))):=if 0≤(l0.length:Int) then (if ((l0.length:Int):Int).toNat≤3198579280802 then (Xu.l0 k l0 (List.replicate ((l0.length:Int):Int).toNat z59) 0) else (none)) else (none)
theorem Xu.calls (k:Nat) (A0:Option Addr) (c0:Nat) (l0:List (S53)) (r:List (S59)) (w:World) (hr0:Kd.C k53 w A0 l0.length l0) (hc0:l0.length≤c0) (h:Xu.f k l0=some r) :
  Calls Try.prog 63 #[.slice A0 l0.length c0] w fun e w'=>∃ v0_:Value,e = .returned (v0_)∧Kd.S k59 59 w' w.heap.size (fun _=>True) v0_ r∧Below w.heap.size w w':=by
 have hu53:=Try.underlying53
 have hu59:=Try.underlying59
 have HR0:=Aside0.mk hr0
 have HC0:=Aside0.mk hc0
 clear hr0 hc0
 have HB:=Aside0.mk (Below.refl w.heap.size w)
 have H:=h
 unfold Xu.f at H
 clear h
 replace H:=ifP H;obtain⟨c2,H⟩:=H
 have c2b0:=eq_true c2
 have c2b1:=decide_eq_true c2
 clear c2
 replace H:=ifP H;obtain⟨c3,H⟩:=H
 have c3b0:=eq_true c3
 have c3b1:=decide_eq_true c3
 clear c3
 obtain⟨y101,hy101⟩:∃ y_:List (S59),y_=(List.replicate ((l0.length:Int):Int).toNat z59):=⟨_,rfl⟩
 replace H:(Xu.l0 k l0 y101 0)=some r:=yH H hy101
 have Ny101:=Aside0.mk hy101
 clear hy101
 have H':=Aside0.mk H
 clear H
 go_enter Try.func63,Try.ntmps63
 go_wp2_with (first | ((with_reducible refine gate_dst (N:=7) rfl ?_);refine Kd.S_make k59 _ 59 rfl (N:=7) rfl 68 _ _ rfl (l0.length:Int) rfl rfl Try.underlying68 (.agg #[(.int .i64 0),(.int .i64 0),(.int .i64 0),(.int .i64 0),(.int .i64 0),(.int .i64 0),(.int .i64 0),(.int .i64 0),(.slice none 0 0)]) 88 info59 rfl (by decide) (by omega) z59 (ok:=fun _=>True) (okp:=fun _=>True) (k59_mkM _ _ _ z59 (Kd.R_nil _ _ _ _ _)) (fun _ hk=>hk) trivial (of_decide_eq_true (by first | (with_reducible assumption) | assumption)) (Nat.le_trans (Nat.mul_le_mul_right _ (of_decide_eq_true (by first | (with_reducible assumption) | assumption):(l0.length:Int).toNat≤3198579280802)) (by omega)) (Below.refl _ _) (Nat.le_refl _) ?_;intro vz1 wz1 hoz1 hb hg_ hnew_;clear hg_ hnew_;(first | rw[← Ny101.out] at hoz1 | (simp only[Int.reduceToNat] at hoz1;rw[← Ny101.out] at hoz1));have HOz1:=Aside0.mk (Kd.S_lower hoz1 (below_size (hX HB.out)));replace HB:=Aside0.mk (below_step (hX HB.out) hb);clear hb hoz1))
 go_loopg [4] k (fun kq v4 w'=>∃ (x3_1:List (S59)) (x4_1:Int),v4 = .int .i64 x4_1∧Aside0 (Xu.l0 kq l0 x3_1 x4_1=some r)∧Aside0 (kq≤k)∧Aside0 (Kd.S k59 59 w' w.heap.size (fun _=>True) vz1 x3_1)∧Aside0 (Below w.heap.size w w'))
 case atStart=>exact⟨(y101),(0),rS,H',⟨Nat.le_refl _⟩,⟨(sX HOz1.out)⟩,⟨(hX HB.out)⟩⟩
 case round =>
  clear H'
  try clear c2
  try clear c2b0
  try clear c2b1
  try clear p2
  try clear c3
  try clear c3b0
  try clear c3b1
  obtain⟨x3_1,x4_1,rfl,HA,HKy1,HO_y1,HB⟩:=hrel
  cases gk with
  | zero=>exact absurd HA.out (by simp[Xu.l0])
  | succ k1 =>
   have H:=HA.out
   clear HA
   simp only[Xu.l0] at H
   by_cases c6:x4_1<(l0.length:Int)
   ·rw[if_pos c6] at H
    have c6b0:=decide_eq_true c6
    clear c6
    replace H:=ifP H;obtain⟨c7,H⟩:=H
    have c7b0:=decide_eq_true c7
    clear c7
    replace H:=bE H;obtain⟨⟨t105,t106,t107,t108,t109,t110,t111,t112,t113⟩,A8,H⟩:=H
    try dsimp only at H
    replace H:=ifP H;obtain⟨c9,H⟩:=H
    have c9b0:=decide_eq_true c9
    clear c9
    obtain⟨y116,hy116⟩:∃ y_:List (S59),y_=(x3_1.set (x4_1:Int).toNat (⟨t105,(⟨t106,t107,t108⟩:S56),t109,t110,t111,(⟨t112,t113⟩:S57)⟩:S59)):=⟨_,rfl⟩
    replace H:(Xu.l0 k1 l0 y116 (wrap64 (x4_1+1)))=some r:=yH H hy116
    have Ny116:=Aside0.mk hy116
    clear hy116
    have H':=Aside0.mk H
    clear H
    have px1:0≤(x4_1:Int):=of_decide_eq_true (by first | (with_reducible assumption) | assumption)
    have qx1:x4_1<(l0.length:Int):=of_decide_eq_true (by first | (with_reducible assumption) | assumption)
    obtain⟨adx1,Ax1,cx1,ex1,hxx1,hxx2,hxx3,hxx4,hxx5,hxx6,hxx7,hxx8,hxx9,hlx1,hix1⟩:=at_T53 HR0.out x4_1 px1 qx1
    cases ex1
    replace hxx1:=(HB.out.cell (World.block_lt_of_cell? w _ hxx1)).trans hxx1
    replace hxx2:=(HB.out.cell (World.block_lt_of_cell? w _ hxx2)).trans hxx2
    replace hxx3:=(HB.out.cell (World.block_lt_of_cell? w _ hxx3)).trans hxx3
    replace hxx4:=(HB.out.cell (World.block_lt_of_cell? w _ hxx4)).trans hxx4
    replace hxx5:=(HB.out.cell (World.block_lt_of_cell? w _ hxx5)).trans hxx5
    replace hxx6:=(HB.out.cell (World.block_lt_of_cell? w _ hxx6)).trans hxx6
    replace hxx7:=(HB.out.cell (World.block_lt_of_cell? w _ hxx7)).trans hxx7
    replace hxx8:=(HB.out.cell (World.block_lt_of_cell? w _ hxx8)).trans hxx8
    replace hxx9:=(HB.out.cell (World.block_lt_of_cell? w _ hxx9)).trans hxx9
    have HRx1:=Aside0.mk hix1
    have HCx1:=Aside0.mk hlx1
    clear hix1 hlx1
    replace px1:=eq_true px1
    replace qx1:=eq_true qx1
    go_wp2_with (first | ((with_reducible refine gate_callee (f:=56) rfl ?_);refine goesM 56 20 Try.func56 #[.agg #[.int .i64 ((rd_T53 l0 x4_1).f0),.int .i64 ((rd_T53 l0 x4_1).f1.f0),.int .i64 ((rd_T53 l0 x4_1).f1.f1),.int .i64 ((rd_T53 l0 x4_1).f1.f2),.int .i64 ((rd_T53 l0 x4_1).f2),.int .i64 ((rd_T53 l0 x4_1).f3),.int .i64 ((rd_T53 l0 x4_1).f4),.int .i64 ((rd_T53 l0 x4_1).f5.f0),.slice Ax1 ((rd_T53 l0 x4_1).f5.f1).length cx1]] ?_;refine(Xaj.calls k1 ((rd_T53 l0 x4_1).f0) ((rd_T53 l0 x4_1).f1.f0) ((rd_T53 l0 x4_1).f1.f1) ((rd_T53 l0 x4_1).f1.f2) ((rd_T53 l0 x4_1).f2) ((rd_T53 l0 x4_1).f3) ((rd_T53 l0 x4_1).f4) ((rd_T53 l0 x4_1).f5.f0) _ _ ((rd_T53 l0 x4_1).f5.f1) t105 t106 t107 t108 t109 t110 t111 t112 t113 _ (cC HRx1.out HB.out) HCx1.out A8.out).mono ?_;rintro e wx1 ⟨vx1,rfl,hox1,hb⟩;refine⟨_,rfl,?_⟩;have HOx1:=Aside0.mk (Kd.R_lower hox1 (below_size (hX HB.out)));replace HO_y1:=Aside0.mk (Kd.S_elder' (sX HO_y1.out) (Kd.R_base hox1) hb);replace HB:=Aside0.mk (below_step (hX HB.out) hb);clear hb hox1;have px2:0≤(x4_1:Int):=of_decide_eq_true (by first | (with_reducible assumption) | assumption);have qx2:(x4_1:Int)<((x3_1.length:Int):Int):=of_decide_eq_true (by first | (with_reducible assumption) | assumption);obtain⟨gox1,cox1,eox1,gbx1,glx1,clx1,HGx1⟩:=Kd.S_form HO_y1.out (by omega);(first | cases eox1 | (injection eox1 with ea_ en_ ec_;(first | subst ea_ | (injection ea_ with ea_;subst ea_));subst ec_;clear en_));have GBx1:=Aside0.mk gbx1;have GGx1:=Aside0.mk HGx1;clear gbx1 glx1 HGx1;obtain⟨_,cex1,hclx1,hMx1,hccx1,hfrx1,_,_⟩:=Kd.S_elem HO_y1.out z59 (x4_1:Int) px2 qx2;obtain⟨vex1,rfl,gex1⟩:=k59_openM hMx1;have hxx10:wx1.cell? ⟨gox1,(x4_1:Int).toNat * 9,none⟩=some (.int .i64 ((rd_T59 x3_1 x4_1).f0)):=hccx1 0 _ rfl;have hxx11:wx1.cell? ⟨gox1,(x4_1:Int).toNat * 9+1,none⟩=some (.int .i64 ((rd_T59 x3_1 x4_1).f1.f0)):=hccx1 1 _ rfl;have hxx12:wx1.cell? ⟨gox1,(x4_1:Int).toNat * 9+2,none⟩=some (.int .i64 ((rd_T59 x3_1 x4_1).f1.f1)):=hccx1 2 _ rfl;have hxx13:wx1.cell? ⟨gox1,(x4_1:Int).toNat * 9+3,none⟩=some (.int .i64 ((rd_T59 x3_1 x4_1).f1.f2)):=hccx1 3 _ rfl;have hxx14:wx1.cell? ⟨gox1,(x4_1:Int).toNat * 9+4,none⟩=some (.int .i64 ((rd_T59 x3_1 x4_1).f2)):=hccx1 4 _ rfl;have hxx15:wx1.cell? ⟨gox1,(x4_1:Int).toNat * 9+5,none⟩=some (.int .i64 ((rd_T59 x3_1 x4_1).f3)):=hccx1 5 _ rfl;have hxx16:wx1.cell? ⟨gox1,(x4_1:Int).toNat * 9+6,none⟩=some (.int .i64 ((rd_T59 x3_1 x4_1).f4)):=hccx1 6 _ rfl;have hxx17:wx1.cell? ⟨gox1,(x4_1:Int).toNat * 9+7,none⟩=some (.int .i64 ((rd_T59 x3_1 x4_1).f5.f0)):=hccx1 7 _ rfl;have hxx18:wx1.cell? ⟨gox1,(x4_1:Int).toNat * 9+8,none⟩=some (vex1):=hccx1 8 _ rfl;have hfx1:wx1.frozen? ⟨gox1,(x4_1:Int).toNat * 9,none⟩=false:=hfrx1 0;have hfx2:wx1.frozen? ⟨gox1,(x4_1:Int).toNat * 9+1,none⟩=false:=hfrx1 1;have hfx3:wx1.frozen? ⟨gox1,(x4_1:Int).toNat * 9+2,none⟩=false:=hfrx1 2;have hfx4:wx1.frozen? ⟨gox1,(x4_1:Int).toNat * 9+3,none⟩=false:=hfrx1 3;have hfx5:wx1.frozen? ⟨gox1,(x4_1:Int).toNat * 9+4,none⟩=false:=hfrx1 4;have hfx6:wx1.frozen? ⟨gox1,(x4_1:Int).toNat * 9+5,none⟩=false:=hfrx1 5;have hfx7:wx1.frozen? ⟨gox1,(x4_1:Int).toNat * 9+6,none⟩=false:=hfrx1 6;have hfx8:wx1.frozen? ⟨gox1,(x4_1:Int).toNat * 9+7,none⟩=false:=hfrx1 7;have hfx9:wx1.frozen? ⟨gox1,(x4_1:Int).toNat * 9+8,none⟩=false:=hfrx1 8;clear hclx1 hccx1 hfrx1 hMx1;replace px2:=eq_true px2;replace qx2:=eq_true qx2;obtain⟨Aox1,cox2,eox2⟩:=Kd.R_slice HOx1.out;subst eox2;have n_:=Aside0.mk (Kd.S_mono (ok':=(fun k_=>some k_ ≠ (.slice Aox1 t113.length cox2:Value).ownBlock)) HO_y1.out (fun k_ hk=>hk.2));clear HO_y1;have HO_y1:=n_;clear n_;have HXx1:=Aside0.mk (show Kd.S k59 59 wx1 w.heap.size (fun k_=>((fun _=>True)) k_∧¬ ((fun k_=>some k_=(.slice Aox1 t113.length cox2:Value).ownBlock)) k_) (.slice (some ⟨gox1,0,none⟩) x3_1.length cox1) x3_1 from (by (with_reducible repeat (first | apply Kd.S_alloc | apply Kd.S_drewN | apply Kd.S_drew));exact Kd.S_mono HO_y1.out (fun k_ hk=>⟨trivial,fun e_=>hk e_⟩)));obtain⟨okix1,cex2,hclx2,hMx2,hccx2,hfrx2,hokix1,hHx1⟩:=Kd.S_elem HXx1.out z59 (x4_1:Int) (of_decide_eq_true (by first | (with_reducible assumption) | assumption)) (by have h_:(x4_1:Int)<((x3_1.length:Int):Int):=of_decide_eq_true (by first | (with_reducible assumption) | assumption);first | exact h_ | (have e_:=(Kd.S_reads' HO_y1.out).1;omega) | simpa using h_);obtain⟨vex2,rfl,gex2⟩:=k59_openM hMx2;have HPx1:=Kd.S_seg hHx1 (of_decide_eq_true (by first | (with_reducible assumption) | assumption)) (by have h_:(x4_1:Int)<((x3_1.length:Int):Int):=of_decide_eq_true (by first | (with_reducible assumption) | assumption);first | exact h_ | (have e_:=(Kd.S_reads' HO_y1.out).1;omega) | simpa using h_) (seg:=[.int .i64 t105,.int .i64 t106,.int .i64 t107,.int .i64 t108,.int .i64 t109,.int .i64 t110,.int .i64 t111,.int .i64 t112,.slice Aox1 t113.length cox2]) (j:=0) (show 9≤9 from by decide) (x':=(⟨t105,(⟨t106,t107,t108⟩:S56),t109,t110,t111,(⟨t112,t113⟩:S57)⟩:S59)) (k59_mkM _ _ _ (⟨t105,(⟨t106,t107,t108⟩:S56),t109,t110,t111,(⟨t112,t113⟩:S57)⟩:S59) (Kd.R_mono (Kd.R_tight rfl (Kd.R_mono (ok':=fun k_=>((fun _=>True)) k_∧k_ ≠ gox1) (Kd.R_apart' (HOx1.out) (Kd.S_typed HO_y1.out) (by decide)) (fun k_ hk=>⟨trivial,fun e_=>(hk.2) (by rw[e_];rfl)⟩))) (fun _ h_=>Or.inr (h_)))) (fun _ hk=>hk) (fun k_ hk_=>((Kd.R_mono (ok':=fun k_=>((fun _=>True)) k_∧k_ ≠ gox1) (Kd.R_apart' (HOx1.out) (Kd.S_typed HO_y1.out) (by decide)) (fun k_ hk=>⟨trivial,fun e_=>(hk.2) (by rw[e_];rfl)⟩))).1 k_ hk_.symm);have hxx19:=hccx2 0 _ rfl;(try simp only[show (k59).sz=9 from rfl,Nat.mul_one,Nat.add_zero] at hxx19);have hfx10:=hfrx2 0;(try simp only[show (k59).sz=9 from rfl,Nat.mul_one,Nat.add_zero] at hfx10);have hxx20:=hccx2 1 _ rfl;(try simp only[show (k59).sz=9 from rfl,Nat.mul_one,Nat.add_zero] at hxx20);have hfx11:=hfrx2 1;(try simp only[show (k59).sz=9 from rfl,Nat.mul_one,Nat.add_zero] at hfx11);have hxx21:=hccx2 2 _ rfl;(try simp only[show (k59).sz=9 from rfl,Nat.mul_one,Nat.add_zero] at hxx21);have hfx12:=hfrx2 2;(try simp only[show (k59).sz=9 from rfl,Nat.mul_one,Nat.add_zero] at hfx12);have hxx22:=hccx2 3 _ rfl;(try simp only[show (k59).sz=9 from rfl,Nat.mul_one,Nat.add_zero] at hxx22);have hfx13:=hfrx2 3;(try simp only[show (k59).sz=9 from rfl,Nat.mul_one,Nat.add_zero] at hfx13);have hxx23:=hccx2 4 _ rfl;(try simp only[show (k59).sz=9 from rfl,Nat.mul_one,Nat.add_zero] at hxx23);have hfx14:=hfrx2 4;(try simp only[show (k59).sz=9 from rfl,Nat.mul_one,Nat.add_zero] at hfx14);have hxx24:=hccx2 5 _ rfl;(try simp only[show (k59).sz=9 from rfl,Nat.mul_one,Nat.add_zero] at hxx24);have hfx15:=hfrx2 5;(try simp only[show (k59).sz=9 from rfl,Nat.mul_one,Nat.add_zero] at hfx15);have hxx25:=hccx2 6 _ rfl;(try simp only[show (k59).sz=9 from rfl,Nat.mul_one,Nat.add_zero] at hxx25);have hfx16:=hfrx2 6;(try simp only[show (k59).sz=9 from rfl,Nat.mul_one,Nat.add_zero] at hfx16);have hxx26:=hccx2 7 _ rfl;(try simp only[show (k59).sz=9 from rfl,Nat.mul_one,Nat.add_zero] at hxx26);have hfx17:=hfrx2 7;(try simp only[show (k59).sz=9 from rfl,Nat.mul_one,Nat.add_zero] at hfx17);have hxx27:=hccx2 8 _ rfl;(try simp only[show (k59).sz=9 from rfl,Nat.mul_one,Nat.add_zero] at hxx27);have hfx18:=hfrx2 8;(try simp only[show (k59).sz=9 from rfl,Nat.mul_one,Nat.add_zero] at hfx18);clear hclx2 hccx2 hfrx2 hMx2 hokix1 hHx1) | ((with_reducible refine gate_store (t:=59) (p:=21) rfl ?_);refine store_event (t:=59) (p:=21) (v:=?vo_wx2) (w1:=(((((((((wx1.setCell ⟨gox1,(x4_1:Int).toNat * 9,none⟩ (.int .i64 t105)).setCell ⟨gox1,(x4_1:Int).toNat * 9+1,none⟩ (.int .i64 t106)).setCell ⟨gox1,(x4_1:Int).toNat * 9+2,none⟩ (.int .i64 t107)).setCell ⟨gox1,(x4_1:Int).toNat * 9+3,none⟩ (.int .i64 t108)).setCell ⟨gox1,(x4_1:Int).toNat * 9+4,none⟩ (.int .i64 t109)).setCell ⟨gox1,(x4_1:Int).toNat * 9+5,none⟩ (.int .i64 t110)).setCell ⟨gox1,(x4_1:Int).toNat * 9+6,none⟩ (.int .i64 t111)).setCell ⟨gox1,(x4_1:Int).toNat * 9+7,none⟩ (.int .i64 t112)).setCell ⟨gox1,(x4_1:Int).toNat * 9+8,none⟩ (.slice Aox1 t113.length cox2))) ?hg ?ho ?hn ?hr ?_;(case ho=>rfl);(case hg=>rfl);(case hn=>rfl);(case hr=>first | (go_simp;done) | (go_simp;rfl));intro wx2 hw;have hg:wx1.grownBy wx2 (some gox1):=(by rw[hw];exact HPx1.2);have hp_:Kd.S k59 59 wx2 w.heap.size (fun _=>True) (.slice (some ⟨gox1,0,none⟩) x3_1.length cox1) y116:=(by rw[hw,Ny116.out];exact HPx1.1);clear HPx1;replace HO_y1:=Aside0.mk (hp_);replace HB:=Aside0.mk ((by rw[hw];exact below_set (below_set (below_set (below_set (below_set (below_set (below_set (below_set (below_set (HB.out) GBx1.out) GBx1.out) GBx1.out) GBx1.out) GBx1.out) GBx1.out) GBx1.out) GBx1.out) GBx1.out:Below w.heap.size w wx2));clear HOx1;clear hg hw hp_))
    go_roundg k1
    case measure=>have:=HKy1.out;omega
    case rel=>exact⟨(y116),(wrap64 (x4_1+1)),rS,H',⟨by have:=HKy1.out;omega⟩,⟨(sX HO_y1.out)⟩,⟨(hX HB.out)⟩⟩
   ·rw[if_neg c6] at H
    have c6b0:=decide_eq_false c6
    clear c6
    obtain rfl:=Option.some.inj H
    go_wp2
    go_ret
    exact⟨_,rE,(sX HO_y1.out),(hX HB.out)⟩
def Xg.l0:Nat→List (S175)→List (S175)→Int→Option (Bool)
 | 0,_,_,_=>none
 | k+1,x0,x1,x5=>if x5<(x0.length:Int) then (if 0≤x5 then (if x5<(x1.length:Int) then ((X3.f k ((rd_T175 x0 x5).f0) ((rd_T175 x0 x5).f1) ((rd_T175 x0 x5).f2) ((rd_T175 x0 x5).f3.f0) ((rd_T175 x0 x5).f3.f1) ((rd_T175 x1 x5).f0) ((rd_T175 x1 x5).f1) ((rd_T175 x1 x5).f2) ((rd_T175 x1 x5).f3.f0) ((rd_T175 x1 x5).f3.f1)).bind fun t103=>(if t103=true then (Xg.l0 k x0 x1 (wrap64 (x5+1))) else (some false))) else (none)) else (none)) else (some true)
def Xg.f (k:Nat) (l0:List (S175)) (l1:List (S175)):Option (Bool):=if (l0.length:Int)=(l1.length:Int) then (Xg.l0 k l0 l1 0) else (some false)
def Xg.T6:Bool × List (List Nat × List Nat):=(true,[([],[]),([],[]),([0,1],[0,1]),([2],[2]),([],[]),([],[]),([4,5],[4,5]),([6],[6]),([3,7],[3,7]),([8],[8])])
def Xg.B6:List Nat:=[0,0,3,7,0,0,48,112,255,511]
theorem Xg.tab6:rtab .any (opsOf Try.f145 6)=Xg.T6:=by kernel_rfl
theorem Xg.bits6:waitsOk Xg.T6.2 Xg.B6=true:=by kernel_rfl
theorem Xg.calls (k:Nat) (A0:Option Addr) (c0:Nat) (l0:List (S175)) (A1:Option Addr) (c1:Nat) (l1:List (S175)) (r:Bool) (w:World) (hr0:Kd.C k175 w A0 l0.length l0) (hc0:l0.length≤c0) (hr1:Kd.C k175 w A1 l1.length l1) (hc1:l1.length≤c1) (h:Xg.f k l0 l1=some r) :
  Calls Try.prog 145 #[.slice A0 l0.length c0,.slice A1 l1.length c1] w fun e w'=>e = .returned (.bool r)∧Below w.heap.size w w':=by
 have hu175:=Try.underlying175
 have HR0:=Aside0.mk hr0
 have HC0:=Aside0.mk hc0
 clear hr0 hc0
 have HR1:=Aside0.mk hr1
 have HC1:=Aside0.mk hc1
 clear hr1 hc1
 have HB:=Aside0.mk (Below.refl w.heap.size w)
 have H:=h
 unfold Xg.f at H
 clear h
 go_enter Try.func145,Try.ntmps145
 by_cases c3:(l0.length:Int)=(l1.length:Int)
 ·rw[if_pos c3] at H
  obtain⟨c3b0,c3b1⟩:=eqT c3
  have c3b2:(l0.length == l1.length)=true:=by first | simpa using c3 | (simp at c3 ⊢;omega)
  clear c3
  have H':=Aside0.mk H
  clear H
  go_wp2
  go_loopg [5] k (fun kq v5 w'=>∃ (x5_1:Int),v5 = .int .i64 x5_1∧Aside0 (Xg.l0 kq l0 l1 x5_1=some r)∧Aside0 (kq≤k)∧Aside0 (Below w.heap.size w w'))
  case atStart=>exact⟨(0),rS,H',⟨Nat.le_refl _⟩,⟨(hX HB.out)⟩⟩
  case round =>
   clear H'
   try clear c1
   try clear p2
   try clear c3
   try clear c3b0
   try clear c3b1
   try clear c3b2
   obtain⟨x5_1,rfl,HA,HKy1,HB⟩:=hrel
   cases gk with
   | zero=>exact absurd HA.out (by simp[Xg.l0])
   | succ k1 =>
    have H:=HA.out
    clear HA
    simp only[Xg.l0] at H
    by_cases c4:x5_1<(l0.length:Int)
    ·rw[if_pos c4] at H
     have c4b0:=decide_eq_true c4
     clear c4
     replace H:=ifP H;obtain⟨c5,H⟩:=H
     have c5b0:=decide_eq_true c5
     clear c5
     replace H:=ifP H;obtain⟨c6,H⟩:=H
     have c6b0:=decide_eq_true c6
     clear c6
     replace H:=bE H;obtain⟨t103,A7,H⟩:=H
     try go_wp2
     replace HB:=Aside0.mk (below_drew1 HB.out)
     have px1:0≤(x5_1:Int):=of_decide_eq_true (by first | (with_reducible assumption) | assumption)
     have qx1:x5_1<(l0.length:Int):=of_decide_eq_true (by first | (with_reducible assumption) | assumption)
     obtain⟨adx1,Ax1,cx1,Ax2,cx2,ex1,hxx1,hxx2,hxx3,hxx4,hxx5,hlx1,hix1,hlx2,hix2⟩:=at_T175 HR0.out x5_1 px1 qx1
     have hwx1:=hxx5
     have hwx2:=hxx4
     have hwx3:=hxx3
     have hwx4:=hxx2
     have hwx5:=hxx1
     cases ex1
     replace hxx1:=(HB.out.cell (World.block_lt_of_cell? w _ hxx1)).trans hxx1
     replace hxx2:=(HB.out.cell (World.block_lt_of_cell? w _ hxx2)).trans hxx2
     replace hxx3:=(HB.out.cell (World.block_lt_of_cell? w _ hxx3)).trans hxx3
     replace hxx4:=(HB.out.cell (World.block_lt_of_cell? w _ hxx4)).trans hxx4
     replace hxx5:=(HB.out.cell (World.block_lt_of_cell? w _ hxx5)).trans hxx5
     have HRx1:=Aside0.mk hix1
     have HCx1:=Aside0.mk hlx1
     clear hix1 hlx1
     have HRx2:=Aside0.mk hix2
     have HCx2:=Aside0.mk hlx2
     clear hix2 hlx2
     replace px1:=eq_true px1
     replace qx1:=eq_true qx1
     have px2:0≤(x5_1:Int):=of_decide_eq_true (by first | (with_reducible assumption) | assumption)
     have qx2:x5_1<(l1.length:Int):=of_decide_eq_true (by first | (with_reducible assumption) | assumption)
     obtain⟨adx2,Ax3,cx3,Ax4,cx4,ex2,hxx6,hxx7,hxx8,hxx9,hxx10,hlx3,hix3,hlx4,hix4⟩:=at_T175 HR1.out x5_1 px2 qx2
     have hwx6:=hxx10
     have hwx7:=hxx9
     have hwx8:=hxx8
     have hwx9:=hxx7
     have hwx10:=hxx6
     cases ex2
     replace hxx6:=(HB.out.cell (World.block_lt_of_cell? w _ hxx6)).trans hxx6
     replace hxx7:=(HB.out.cell (World.block_lt_of_cell? w _ hxx7)).trans hxx7
     replace hxx8:=(HB.out.cell (World.block_lt_of_cell? w _ hxx8)).trans hxx8
     replace hxx9:=(HB.out.cell (World.block_lt_of_cell? w _ hxx9)).trans hxx9
     replace hxx10:=(HB.out.cell (World.block_lt_of_cell? w _ hxx10)).trans hxx10
     have HRx3:=Aside0.mk hix3
     have HCx3:=Aside0.mk hlx3
     clear hix3 hlx3
     have HRx4:=Aside0.mk hix4
     have HCx4:=Aside0.mk hlx4
     clear hix4 hlx4
     replace px2:=eq_true px2
     replace qx2:=eq_true qx2
     refine start_ (n:=10) (S:=fun w'=>w'.cell? (adx1.add ((x5_1).toNat * 5))=some (.int .i64 ((rd_T175 l0 x5_1).f0))∧w'.cell? ⟨(adx1.add ((x5_1).toNat * 5)).block,(adx1.add ((x5_1).toNat * 5)).off+1,none⟩=some (.int .i64 ((rd_T175 l0 x5_1).f1))∧w'.cell? ⟨(adx1.add ((x5_1).toNat * 5)).block,(adx1.add ((x5_1).toNat * 5)).off+2,none⟩=some (.slice Ax1 ((rd_T175 l0 x5_1).f2).length cx1)∧w'.cell? ⟨(adx1.add ((x5_1).toNat * 5)).block,(adx1.add ((x5_1).toNat * 5)).off+3,none⟩=some (.int .i64 ((rd_T175 l0 x5_1).f3.f0))∧w'.cell? ⟨(adx1.add ((x5_1).toNat * 5)).block,(adx1.add ((x5_1).toNat * 5)).off+4,none⟩=some (.slice Ax2 ((rd_T175 l0 x5_1).f3.f1).length cx2)∧w'.cell? (adx2.add ((x5_1).toNat * 5))=some (.int .i64 ((rd_T175 l1 x5_1).f0))∧w'.cell? ⟨(adx2.add ((x5_1).toNat * 5)).block,(adx2.add ((x5_1).toNat * 5)).off+1,none⟩=some (.int .i64 ((rd_T175 l1 x5_1).f1))∧w'.cell? ⟨(adx2.add ((x5_1).toNat * 5)).block,(adx2.add ((x5_1).toNat * 5)).off+2,none⟩=some (.slice Ax3 ((rd_T175 l1 x5_1).f2).length cx3)∧w'.cell? ⟨(adx2.add ((x5_1).toNat * 5)).block,(adx2.add ((x5_1).toNat * 5)).off+3,none⟩=some (.int .i64 ((rd_T175 l1 x5_1).f3.f0))∧w'.cell? ⟨(adx2.add ((x5_1).toNat * 5)).block,(adx2.add ((x5_1).toNat * 5)).off+4,none⟩=some (.slice Ax4 ((rd_T175 l1 x5_1).f3.f1).length cx4)) (ds:=[]) (bm 10 0) (by kernel_rfl) rfl (by kernel_rfl) ⟨((HB.out.cell (World.block_lt_of_cell? w _ hwx5)).trans hwx5),((HB.out.cell (World.block_lt_of_cell? w _ hwx4)).trans hwx4),((HB.out.cell (World.block_lt_of_cell? w _ hwx3)).trans hwx3),((HB.out.cell (World.block_lt_of_cell? w _ hwx2)).trans hwx2),((HB.out.cell (World.block_lt_of_cell? w _ hwx1)).trans hwx1),((HB.out.cell (World.block_lt_of_cell? w _ hwx10)).trans hwx10),((HB.out.cell (World.block_lt_of_cell? w _ hwx9)).trans hwx9),((HB.out.cell (World.block_lt_of_cell? w _ hwx8)).trans hwx8),((HB.out.cell (World.block_lt_of_cell? w _ hwx7)).trans hwx7),((HB.out.cell (World.block_lt_of_cell? w _ hwx6)).trans hwx6)⟩ (fun hHeld => ?_);refine with_tabW Xg.tab6 Xg.bits6 (fun HT_ HW_ => ?_)
     generalize wr.drew=wx1 at HB HRx1 HRx2 HRx3 HRx4 hxx1 hxx2 hxx3 hxx4 hxx5 hxx6 hxx7 hxx8 hxx9 hxx10 hHeld ⊢
     refine pZ 0 17 (bm 10 1) HT_.out ?_
     refine pZ 1 18 (bm 10 3) HT_.out ?_
     refine pZ 2 19 (bm 10 7) HT_.out ?_
     refine pZ 4 21 (bm 10 23) HT_.out ?_
     refine pZ 5 22 (bm 10 55) HT_.out ?_
     refine pZ 6 23 (bm 10 119) HT_.out ?_
     refine tZ 3 20 (bm 10 127) HT_.out HW_.out hHeld ?_
     refine tZ 7 24 (bm 10 255) HT_.out HW_.out hHeld ?_
     by_cases c8:t103=true
     ·subst c8
      rw[if_pos rfl] at H
      have H':=Aside0.mk H
      clear H
      refine oZ 8 (some 25) (bm 10 511) HT_.out (fun K hK => ?_)
      refine goesN Try.func170 #[.agg #[.int .i64 ((rd_T175 l0 x5_1).f0),.int .i64 ((rd_T175 l0 x5_1).f1),.slice Ax1 ((rd_T175 l0 x5_1).f2).length cx1,.int .i64 ((rd_T175 l0 x5_1).f3.f0),.slice Ax2 ((rd_T175 l0 x5_1).f3.f1).length cx2],.agg #[.int .i64 ((rd_T175 l1 x5_1).f0),.int .i64 ((rd_T175 l1 x5_1).f1),.slice Ax3 ((rd_T175 l1 x5_1).f2).length cx3,.int .i64 ((rd_T175 l1 x5_1).f3.f0),.slice Ax4 ((rd_T175 l1 x5_1).f3.f1).length cx4]] ?_
      with_reducible refine(X3.calls k1 ((rd_T175 l0 x5_1).f0) ((rd_T175 l0 x5_1).f1) _ _ ((rd_T175 l0 x5_1).f2) ((rd_T175 l0 x5_1).f3.f0) _ _ ((rd_T175 l0 x5_1).f3.f1) ((rd_T175 l1 x5_1).f0) ((rd_T175 l1 x5_1).f1) _ _ ((rd_T175 l1 x5_1).f2) ((rd_T175 l1 x5_1).f3.f0) _ _ ((rd_T175 l1 x5_1).f3.f1) true _ ?side1 ?side2 ?side3 ?side4 ?side5 ?side6 ?side7 ?side8 A7.out).mono ?_
      (case side1=>repeat (first | exact(Kd.C_below HRx1.out HB.out) | (with_reducible refine Kd.C_alloc ?_ _) | (with_reducible refine Kd.C_drewN ?_ _) | (with_reducible refine Kd.C_drew ?_)))
      (case side2=>exact HCx1.out)
      (case side3=>repeat (first | exact(Kd.C_below HRx2.out HB.out) | (with_reducible refine Kd.C_alloc ?_ _) | (with_reducible refine Kd.C_drewN ?_ _) | (with_reducible refine Kd.C_drew ?_)))
      (case side4=>exact HCx2.out)
      (case side5=>repeat (first | exact(Kd.C_below HRx3.out HB.out) | (with_reducible refine Kd.C_alloc ?_ _) | (with_reducible refine Kd.C_drewN ?_ _) | (with_reducible refine Kd.C_drew ?_)))
      (case side6=>exact HCx3.out)
      (case side7=>repeat (first | exact(Kd.C_below HRx4.out HB.out) | (with_reducible refine Kd.C_alloc ?_ _) | (with_reducible refine Kd.C_drewN ?_ _) | (with_reducible refine Kd.C_drew ?_)))
      (case side8=>exact HCx4.out)
      rintro e wx2 ⟨rfl,hb⟩
      refine⟨_,rfl,?_⟩
      replace HB:=Aside0.mk (below_step (hX HB.out) hb)
      (try clear hb)
      (try clear hb2)
      (try clear hk)
      (try clear hi)
      refine hK.out _ _ ⟨((HB.out.cell (World.block_lt_of_cell? w _ hwx5)).trans hwx5),((HB.out.cell (World.block_lt_of_cell? w _ hwx4)).trans hwx4),((HB.out.cell (World.block_lt_of_cell? w _ hwx3)).trans hwx3),((HB.out.cell (World.block_lt_of_cell? w _ hwx2)).trans hwx2),((HB.out.cell (World.block_lt_of_cell? w _ hwx1)).trans hwx1),((HB.out.cell (World.block_lt_of_cell? w _ hwx10)).trans hwx10),((HB.out.cell (World.block_lt_of_cell? w _ hwx9)).trans hwx9),((HB.out.cell (World.block_lt_of_cell? w _ hwx8)).trans hwx8),((HB.out.cell (World.block_lt_of_cell? w _ hwx7)).trans hwx7),((HB.out.cell (World.block_lt_of_cell? w _ hwx6)).trans hwx6)⟩ (fun hHeld => ?_)
      clear hK K
      refine nZ 25 ?_
      refine pZ 9 26 (bm 10 1023) HT_.out ?_
      refine done_ (done_of HT_.out (by kernel_rfl)) ?_
      try go_wp2
      go_roundg k1
      case measure=>have:=HKy1.out;omega
      case rel=>exact⟨(wrap64 (x5_1+1)),rS,H',⟨by have:=HKy1.out;omega⟩,⟨(hX HB.out)⟩⟩
     ·replace c8:=Bool.eq_false_iff.mpr c8
      subst c8
      rw[if_neg nft] at H
      obtain rfl:=Option.some.inj H
      refine oZ 8 (some 25) (bm 10 511) HT_.out (fun K hK => ?_)
      refine goesN Try.func170 #[.agg #[.int .i64 ((rd_T175 l0 x5_1).f0),.int .i64 ((rd_T175 l0 x5_1).f1),.slice Ax1 ((rd_T175 l0 x5_1).f2).length cx1,.int .i64 ((rd_T175 l0 x5_1).f3.f0),.slice Ax2 ((rd_T175 l0 x5_1).f3.f1).length cx2],.agg #[.int .i64 ((rd_T175 l1 x5_1).f0),.int .i64 ((rd_T175 l1 x5_1).f1),.slice Ax3 ((rd_T175 l1 x5_1).f2).length cx3,.int .i64 ((rd_T175 l1 x5_1).f3.f0),.slice Ax4 ((rd_T175 l1 x5_1).f3.f1).length cx4]] ?_
      with_reducible refine(X3.calls k1 ((rd_T175 l0 x5_1).f0) ((rd_T175 l0 x5_1).f1) _ _ ((rd_T175 l0 x5_1).f2) ((rd_T175 l0 x5_1).f3.f0) _ _ ((rd_T175 l0 x5_1).f3.f1) ((rd_T175 l1 x5_1).f0) ((rd_T175 l1 x5_1).f1) _ _ ((rd_T175 l1 x5_1).f2) ((rd_T175 l1 x5_1).f3.f0) _ _ ((rd_T175 l1 x5_1).f3.f1) false _ ?side1 ?side2 ?side3 ?side4 ?side5 ?side6 ?side7 ?side8 A7.out).mono ?_
      (case side1=>repeat (first | exact(Kd.C_below HRx1.out HB.out) | (with_reducible refine Kd.C_alloc ?_ _) | (with_reducible refine Kd.C_drewN ?_ _) | (with_reducible refine Kd.C_drew ?_)))
      (case side2=>exact HCx1.out)
      (case side3=>repeat (first | exact(Kd.C_below HRx2.out HB.out) | (with_reducible refine Kd.C_alloc ?_ _) | (with_reducible refine Kd.C_drewN ?_ _) | (with_reducible refine Kd.C_drew ?_)))
      (case side4=>exact HCx2.out)
      (case side5=>repeat (first | exact(Kd.C_below HRx3.out HB.out) | (with_reducible refine Kd.C_alloc ?_ _) | (with_reducible refine Kd.C_drewN ?_ _) | (with_reducible refine Kd.C_drew ?_)))
      (case side6=>exact HCx3.out)
      (case side7=>repeat (first | exact(Kd.C_below HRx4.out HB.out) | (with_reducible refine Kd.C_alloc ?_ _) | (with_reducible refine Kd.C_drewN ?_ _) | (with_reducible refine Kd.C_drew ?_)))
      (case side8=>exact HCx4.out)
      rintro e wx2 ⟨rfl,hb⟩
      refine⟨_,rfl,?_⟩
      replace HB:=Aside0.mk (below_step (hX HB.out) hb)
      (try clear hb)
      (try clear hb2)
      (try clear hk)
      (try clear hi)
      refine hK.out _ _ ⟨((HB.out.cell (World.block_lt_of_cell? w _ hwx5)).trans hwx5),((HB.out.cell (World.block_lt_of_cell? w _ hwx4)).trans hwx4),((HB.out.cell (World.block_lt_of_cell? w _ hwx3)).trans hwx3),((HB.out.cell (World.block_lt_of_cell? w _ hwx2)).trans hwx2),((HB.out.cell (World.block_lt_of_cell? w _ hwx1)).trans hwx1),((HB.out.cell (World.block_lt_of_cell? w _ hwx10)).trans hwx10),((HB.out.cell (World.block_lt_of_cell? w _ hwx9)).trans hwx9),((HB.out.cell (World.block_lt_of_cell? w _ hwx8)).trans hwx8),((HB.out.cell (World.block_lt_of_cell? w _ hwx7)).trans hwx7),((HB.out.cell (World.block_lt_of_cell? w _ hwx6)).trans hwx6)⟩ (fun hHeld => ?_)
      clear hK K
      refine nZ 25 ?_
      refine pZ 9 26 (bm 10 1023) HT_.out ?_
      refine done_ (done_of HT_.out (by kernel_rfl)) ?_
      try go_wp2
      go_ret
      exact⟨rE,(hX HB.out)⟩
    ·rw[if_neg c4] at H
     have c4b0:=decide_eq_false c4
     clear c4
     obtain rfl:=Option.some.inj H
     go_wp2
     go_ret
     exact⟨rE,(hX HB.out)⟩
 ·rw[if_neg c3] at H
  obtain⟨c3b0,c3b1⟩:=eqF c3
  have c3b2:(l0.length == l1.length)=false:=by first | simpa using c3 | (simp at c3 ⊢;omega)
  obtain rfl:=Option.some.inj H
  go_wp2
  go_ret
  exact⟨rE,(hX HB.out)⟩
end Go.Proofs.Yteamagejhbkhnaa.P
