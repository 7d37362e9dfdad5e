/- A part of the proof of the law FnExactReplay: texts of this seat, merged (words, printed functions of the program, plain lemmas). Conditions: none of its own. -/
import Derived.Test.YtmljebgideecjaaGreatP2kFnExactReplay20
set_option linter.unusedSimpArgs false
set_option linter.unusedVariables false
set_option maxHeartbeats 8000000
set_option maxRecDepth 100000
namespace Go.Proofs.YtmljebgideecjaaGreat.P2
open Go.Proofs.YtmljebgideecjaaGreatZ Go.RowKit Go.Proofs.YtmljebgideecjaaGreatW.PrintWords Go.Proofs.YtmljebgideecjaaGreatW.PrintLast Go.Proofs.YtmljebgideecjaaGreatW.PrintMore
attribute [local go_sem] max2_int min2_int max_two min_two max_three min_three max_four min_four   -- for this text's walks alone
def X8.l0:Nat→List (S155)→Int→Int→Option (Int)
 | 0,_,_,_=>none
 | k+1,x0,x1,x5=>if x5<(x0.length:Int) then (if 0≤x5 then ((Xbd.f ((rd_T155 x0 x5).f0) ((rd_T155 x0 x5).f1) ((rd_T155 x0 x5).f2) ((rd_T155 x0 x5).f3.f0) ((rd_T155 x0 x5).f3.f1) x1).bind fun t102=>(if t102<0 then (some (-1)) else (X8.l0 k x0 t102 (wrap64 (x5+1))))) else (none)) else (some x1)
def X8.f (k:Nat) (l0:List (S155)) (a1:Int):Option (Int):=if (wrap64 (a1 - (l0.length:Int)))<0 then (some (-1)) else (X8.l0 k l0 (wrap64 (a1 - (l0.length:Int))) 0)
theorem X8.calls (k:Nat) (A0:Option Addr) (c0:Nat) (l0:List (S155)) (a1:Int) (r:Int) (w:World) (h0:Rw k155 w A0 c0 l0) (H:X8.f k l0 a1=some r) :
  Calls Tryz.prog 89 #[.slice A0 l0.length c0,.int .i64 a1] w fun e w'=>e = .returned (.int .i64 r)∧Below w.heap.size w w':=by
 have hu155:=Tryz.underlying155
 obtain⟨HR0,HC0⟩:=h0
 have HB:=aM (Below.refl w.heap.size w)
 unfold X8.f at H
 go_enter Tryz.func89,Tryz.ntmps89
 revert H;refine iP ?_ ?_<;>intro c3b0 H
 ·obtain rfl:=sI H
  exact fS
 have H':=aM H
 clear H
 go_wp2
 go_loopg [1,5] k (fun kq v1 v5 w'=>∃ (x1_1:Int) (x5_1:Int),v1 = .int .i64 x1_1∧v5 = .int .i64 x5_1∧Aside0 (X8.l0 kq l0 x1_1 x5_1=some r)∧Aside0 (kq≤k)∧Aside0 (Below w.heap.size w w'))
 case atStart=>exact⟨(wrap64 (a1 - (l0.length:Int))),(0),rS,rS,H',⟨Nat.le_refl _⟩,⟨(hX HB.out)⟩⟩
 case round =>
  clear H'
  try clear c3b0
  obtain⟨x1_1,x5_1,rfl,rfl,HA,HKy1,HB⟩:=hrel
  cases gk with
  | zero=>exact absurd HA.out (by simp[X8.l0])
  | succ k1 =>
   have H:=HA.out
   clear HA
   simp only[X8.l0] at H
   revert H;refine iN ?_ ?_<;>intro c4b0 H
   ·obtain rfl:=sI H
    exact fS
   replace H:=ifQ H;obtain⟨c5b0,H⟩:=H
   replace H:=bE H;obtain⟨t102,A6,H⟩:=H
   obtain⟨adx1,Ax1,cx1,Ax2,cx2,ex1,px1,qx1,hxx1,HCx1,HRx1,HCx2,HRx2⟩:=at_T155c HR0 HB x5_1
   cases ex1
   go_wp2_with (refine gB 152 23 Tryz.func152 (Xbd.calls _ _ _ _ _ _ _ _ _ _ _ _ (rW HRx1 HB HCx1) (rW HRx2 HB HCx2) A6.out) ?_;intro wx1 hb;replace HB:=aS HB hb;clear hb;refine Stop.out ?_)
   refine⟨?_⟩
   revert H;refine iP ?_ ?_<;>intro c7b0 H
   ·obtain rfl:=sI H
    exact fS
   have H':=aM H
   clear H
   go_wp2
   go_roundg k1
   case measure=>have:=HKy1.out;omega
   case rel=>exact⟨(t102),(wrap64 (x5_1+1)),rS,rS,H',⟨by have:=HKy1.out;omega⟩,⟨(hX HB.out)⟩⟩
def XT.l0:Nat→List (S119)→Int→Int→Option (Int)
 | 0,_,_,_=>none
 | k+1,x0,x1,x5=>if x5<(x0.length:Int) then (if 0≤x5 then ((Xbe.f ((rd_T119 x0 x5).f0) ((rd_T119 x0 x5).f1.f0) ((rd_T119 x0 x5).f1.f1) ((rd_T119 x0 x5).f1.f2) ((rd_T119 x0 x5).f2) ((rd_T119 x0 x5).f3) ((rd_T119 x0 x5).f4) ((rd_T119 x0 x5).f5.f0) ((rd_T119 x0 x5).f5.f1) x1).bind fun t102=>(if t102<0 then (some (-1)) else (XT.l0 k x0 t102 (wrap64 (x5+1))))) else (none)) else (some x1)
def XT.f (k:Nat) (l0:List (S119)) (a1:Int):Option (Int):=if (wrap64 (a1 - (l0.length:Int)))<0 then (some (-1)) else (XT.l0 k l0 (wrap64 (a1 - (l0.length:Int))) 0)
theorem XT.calls (k:Nat) (A0:Option Addr) (c0:Nat) (l0:List (S119)) (a1:Int) (r:Int) (w:World) (h0:Rw k119 w A0 c0 l0) (H:XT.f k l0 a1=some r) :
  Calls Tryz.prog 40 #[.slice A0 l0.length c0,.int .i64 a1] w fun e w'=>e = .returned (.int .i64 r)∧Below w.heap.size w w':=by
 have hu119:=Tryz.underlying119
 obtain⟨HR0,HC0⟩:=h0
 have HB:=aM (Below.refl w.heap.size w)
 unfold XT.f at H
 go_enter Tryz.func40,Tryz.ntmps40
 revert H;refine iP ?_ ?_<;>intro c3b0 H
 ·obtain rfl:=sI H
  exact fS
 have H':=aM H
 clear H
 go_wp2
 go_loopg [1,5] k (fun kq v1 v5 w'=>∃ (x1_1:Int) (x5_1:Int),v1 = .int .i64 x1_1∧v5 = .int .i64 x5_1∧Aside0 (XT.l0 kq l0 x1_1 x5_1=some r)∧Aside0 (kq≤k)∧Aside0 (Below w.heap.size w w'))
 case atStart=>exact⟨(wrap64 (a1 - (l0.length:Int))),(0),rS,rS,H',⟨Nat.le_refl _⟩,⟨(hX HB.out)⟩⟩
 case round =>
  clear H'
  try clear c3b0
  obtain⟨x1_1,x5_1,rfl,rfl,HA,HKy1,HB⟩:=hrel
  cases gk with
  | zero=>exact absurd HA.out (by simp[XT.l0])
  | succ k1 =>
   have H:=HA.out
   clear HA
   simp only[XT.l0] at H
   revert H;refine iN ?_ ?_<;>intro c4b0 H
   ·obtain rfl:=sI H
    exact fS
   replace H:=ifQ H;obtain⟨c5b0,H⟩:=H
   replace H:=bE H;obtain⟨t102,A6,H⟩:=H
   obtain⟨adx1,Ax1,cx1,ex1,px1,qx1,hxx1,HCx1,HRx1⟩:=at_T119c HR0 HB x5_1
   cases ex1
   go_wp2_with (refine gB 91 23 Tryz.func91 (Xbe.calls _ _ _ _ _ _ _ _ _ _ _ _ _ _ (rW HRx1 HB HCx1) A6.out) ?_;intro wx1 hb;replace HB:=aS HB hb;clear hb;refine Stop.out ?_)
   refine⟨?_⟩
   revert H;refine iP ?_ ?_<;>intro c7b0 H
   ·obtain rfl:=sI H
    exact fS
   have H':=aM H
   clear H
   go_wp2
   go_roundg k1
   case measure=>have:=HKy1.out;omega
   case rel=>exact⟨(t102),(wrap64 (x5_1+1)),rS,rS,H',⟨by have:=HKy1.out;omega⟩,⟨(hX HB.out)⟩⟩
def X9.l0:Nat→List (S155)→List (S162)→Int→Option ((List (S162)))
 | 0,_,_,_=>none
 | k+1,x0,x3,x4=>if x4<(x0.length:Int) then (if 0≤x4 then ((Xbf.f k ((rd_T155 x0 x4).f0) ((rd_T155 x0 x4).f1) ((rd_T155 x0 x4).f2) ((rd_T155 x0 x4).f3.f0) ((rd_T155 x0 x4).f3.f1)).bind fun bt105=>(if x4<(x3.length:Int) then (X9.l0 k x0 (x3.set (x4:Int).toNat (⟨bt105.1,bt105.2.1,bt105.2.2.1,(⟨bt105.2.2.2.1,bt105.2.2.2.2⟩:S71)⟩:S162)) (wrap64 (x4+1))) else (none))) else (none)) else (some x3)
def X9.f (k:Nat) (l0:List (S155)):Option ((List (S162))):=if 0≤(l0.length:Int) then (if ((l0.length:Int):Int).toNat≤3909374676536 then (X9.l0 k l0 (List.replicate ((l0.length:Int):Int).toNat z162) 0) else (none)) else (none)
theorem X9.calls (k:Nat) (A0:Option Addr) (c0:Nat) (l0:List (S155)) (r:List (S162)) (w:World) (h0:Rw k155 w A0 c0 l0) (H:X9.f k l0=some r) :
  Calls Tryz.prog 98 #[.slice A0 l0.length c0] w fun e w'=>∃ v0_:Value,e = .returned (v0_)∧Kd.S k162 162 w' w.heap.size (fun _=>True) v0_ r∧Below w.heap.size w w':=by
 have hu155:=Tryz.underlying155
 have hu162:=Tryz.underlying162
 obtain⟨HR0,HC0⟩:=h0
 have HB:=aM (Below.refl w.heap.size w)
 unfold X9.f at H
 replace H:=ifP H;obtain⟨c2,H⟩:=H
 have c2b0:=eq_true c2
 have c2b1:=decide_eq_true c2
 clear c2
 replace H:=ifP H;obtain⟨c3,H⟩:=H
 have c3b0:=eq_true c3
 have c3b1:=decide_eq_true c3
 clear c3
 obtain⟨y101,hy101⟩:∃ y_:List (S162),y_=(List.replicate ((l0.length:Int):Int).toNat z162):=⟨_,rfl⟩
 replace H:(X9.l0 k l0 y101 0)=some r:=yH H hy101
 have Ny101:=aM hy101
 clear hy101
 have H':=aM H
 clear H
 go_enter Tryz.func98,Tryz.ntmps98
 go_wp2_with ((with_reducible refine gate_dst (N:=7) rfl ?_);refine Kd.S_make k162 _ 162 rfl (N:=7) rfl 36 _ _ rfl (l0.length:Int) rfl rfl Tryz.underlying36 (.agg #[(.int .i64 0),(.int .i64 0),(.slice none 0 0),(.int .i64 0),(.slice none 0 0)]) 72 info162 rfl (by decide) (by omega) z162 (ok:=fun _=>True) (okp:=fun _=>True) (k162_mkM _ _ _ z162 (Kd.R_nil _ _ _ _ _) (Kd.R_nil _ _ _ _ _)) (fun _ hk=>hk) trivial (odA) (Nat.le_trans (Nat.mul_le_mul_right _ (odA:(l0.length:Int).toNat≤3909374676536)) (by omega)) (Below.refl _ _) (Nat.le_refl _) ?_;intro vz1 wz1 hoz1 hb hg_ hnew_;clear hg_ hnew_;(first | rw[← Ny101.out] at hoz1 | (simp only[Int.reduceToNat] at hoz1;rw[← Ny101.out] at hoz1));have HOz1:=aM (Kd.S_lower hoz1 (below_size (hX HB.out)));replace HB:=aS HB hb;clear hb hoz1)
 go_loopg [4] k (fun kq v4 w'=>∃ (x3_1:List (S162)) (x4_1:Int),v4 = .int .i64 x4_1∧Aside0 (X9.l0 kq l0 x3_1 x4_1=some r)∧Aside0 (kq≤k)∧Aside0 (Kd.S k162 162 w' w.heap.size (fun _=>True) vz1 x3_1)∧Aside0 (Below w.heap.size w w'))
 case atStart=>exact⟨(y101),(0),rS,H',⟨Nat.le_refl _⟩,⟨(sX HOz1.out)⟩,⟨(hX HB.out)⟩⟩
 case round =>
  clear H'
  try clear c2
  try clear c2b0
  try clear c2b1
  try clear c3
  try clear c3b0
  try clear c3b1
  obtain⟨x3_1,x4_1,rfl,HA,HKy1,HO_y1,HB⟩:=hrel
  cases gk with
  | zero=>exact absurd HA.out (by simp[X9.l0])
  | succ k1 =>
   have H:=HA.out
   clear HA
   simp only[X9.l0] at H
   revert H;refine iN ?_ ?_<;>intro c6b0 H
   ·obtain rfl:=sI H
    go_wp2
    go_ret
    exact⟨_,rE,(sX HO_y1.out),(hX HB.out)⟩
   replace H:=ifQ H;obtain⟨c7b0,H⟩:=H
   replace H:=bE H;obtain⟨⟨t105,t106,t107,t110,t111⟩,A8,H⟩:=H
   try dsimp only at H
   replace H:=ifQ H;obtain⟨c9b0,H⟩:=H
   obtain⟨y114,hy114⟩:∃ y_:List (S162),y_=(x3_1.set (x4_1:Int).toNat (⟨t105,t106,t107,(⟨t110,t111⟩:S71)⟩:S162)):=⟨_,rfl⟩
   replace H:(X9.l0 k1 l0 y114 (wrap64 (x4_1+1)))=some r:=yH H hy114
   have Ny114:=aM hy114
   clear hy114
   have H':=aM H
   clear H
   obtain⟨adx1,Ax1,cx1,Ax2,cx2,ex1,px1,qx1,hxx1,HCx1,HRx1,HCx2,HRx2⟩:=at_T155c HR0 HB x4_1
   cases ex1
   go_wp2_with (first | (refine goesM 165 20 Tryz.func165 #[.agg #[.int .i64 ((rd_T155 l0 x4_1).f0),.int .i64 ((rd_T155 l0 x4_1).f1),.slice Ax1 ((rd_T155 l0 x4_1).f2).length cx1,.int .i64 ((rd_T155 l0 x4_1).f3.f0),.slice Ax2 ((rd_T155 l0 x4_1).f3.f1).length cx2]] ?_;refine(Xbf.calls _ _ _ _ _ _ _ _ _ _ _ _ _ _ _ _ (rW HRx1 HB HCx1) (rW HRx2 HB HCx2) A8.out).mono ?_;rintro e wx1 ⟨vx1,vx2,rfl,hox1,hox2,hb⟩;refine⟨_,rfl,?_⟩;have HOx1:=aM (Kd.R_lower hox1 (below_size (hX HB.out)));have HOx2:=aM (Kd.R_lower hox2 (below_size (hX HB.out)));replace HO_y1:=aM (Kd.S_mono (Kd.S_told (Kd.S_told (Kd.S_old (sX HO_y1.out) hb) (Kd.R_base hox1)) (Kd.R_base hox2)) (fun _ h_=>h_.1));replace HB:=aS HB hb;clear hb hox1 hox2;have px2:0≤(x4_1:Int):=odA;have qx2:(x4_1:Int)<((x3_1.length:Int):Int):=odA;obtain⟨gox1,cox1,eox1,gbx1,glx1,clx1,HGx1⟩:=Kd.S_form HO_y1.out (by omega);(first | cases eox1 | (injection eox1 with ea_ en_ ec_;(first | subst ea_ | (injection ea_ with ea_;subst ea_));subst ec_;clear en_));have GBx1:=aM gbx1;have GGx1:=aM HGx1;clear gbx1 glx1 HGx1;obtain⟨_,cex1,hclx1,hMx1,hccx1,hfrx1,_,_⟩:=Kd.S_elem HO_y1.out z162 (x4_1:Int) px2 qx2;obtain⟨vex1,vex2,rfl,gex1,gex2⟩:=k162_openM hMx1;have hxx6:wx1.cell? ⟨gox1,(x4_1:Int).toNat * 5,none⟩=some (.int .i64 ((rd_T162 x3_1 x4_1).f0)):=hccx1 0 _ rfl;have hxx7:wx1.cell? ⟨gox1,(x4_1:Int).toNat * 5+1,none⟩=some (.int .i64 ((rd_T162 x3_1 x4_1).f1)):=hccx1 1 _ rfl;have hxx8:wx1.cell? ⟨gox1,(x4_1:Int).toNat * 5+2,none⟩=some (vex1):=hccx1 2 _ rfl;have hxx9:wx1.cell? ⟨gox1,(x4_1:Int).toNat * 5+3,none⟩=some (.int .i64 ((rd_T162 x3_1 x4_1).f3.f0)):=hccx1 3 _ rfl;have hxx10:wx1.cell? ⟨gox1,(x4_1:Int).toNat * 5+4,none⟩=some (vex2):=hccx1 4 _ rfl;have hfx1:wx1.frozen? ⟨gox1,(x4_1:Int).toNat * 5,none⟩=false:=hfrx1 0;have hfx2:wx1.frozen? ⟨gox1,(x4_1:Int).toNat * 5+1,none⟩=false:=hfrx1 1;have hfx3:wx1.frozen? ⟨gox1,(x4_1:Int).toNat * 5+2,none⟩=false:=hfrx1 2;have hfx4:wx1.frozen? ⟨gox1,(x4_1:Int).toNat * 5+3,none⟩=false:=hfrx1 3;have hfx5:wx1.frozen? ⟨gox1,(x4_1:Int).toNat * 5+4,none⟩=false:=hfrx1 4;clear hclx1 hccx1 hfrx1 hMx1;replace px2:=eq_true px2;replace qx2:=eq_true qx2;obtain⟨Aox1,cox2,eox2⟩:=Kd.R_slice HOx1.out;subst eox2;obtain⟨Aox2,cox3,eox3⟩:=Kd.R_slice HOx2.out;subst eox3;have n_:=aM (Kd.S_mono (ok':=(fun k_=>some k_ ≠ (.slice Aox1 t107.length cox2:Value).ownBlock∧some k_ ≠ (.slice Aox2 t111.length cox3:Value).ownBlock)) HO_y1.out (fun k_ hk=>⟨hk.1.2,hk.2⟩));clear HO_y1;have HO_y1:=n_;clear n_;have HXx1:=aM (show Kd.S k162 162 wx1 w.heap.size (fun k_=>((fun _=>True)) k_∧¬ ((fun k_=>some k_=(.slice Aox1 t107.length cox2:Value).ownBlock ∨ some k_=(.slice Aox2 t111.length cox3:Value).ownBlock)) k_) (.slice (some ⟨gox1,0,none⟩) x3_1.length cox1) x3_1 from (by (with_reducible repeat (first | apply Kd.S_alloc | apply Kd.S_drewN | apply Kd.S_drew));exact Kd.S_mono HO_y1.out (fun k_ hk=>⟨trivial,fun e_=>e_.elim (fun h_=>hk.1 h_) (fun h_=>hk.2 h_)⟩)));obtain⟨okix1,cex2,hclx2,hMx2,hccx2,hfrx2,hokix1,hHx1⟩:=Kd.S_elem HXx1.out z162 (x4_1:Int) (odA) (by have h_:(x4_1:Int)<((x3_1.length:Int):Int):=odA;first | exact h_ | (have e_:=(Kd.S_reads' HO_y1.out).1;omega) | simpa using h_);obtain⟨vex3,vex4,rfl,gex3,gex4⟩:=k162_openM hMx2;have HPx1:=Kd.S_seg hHx1 (odA) (by have h_:(x4_1:Int)<((x3_1.length:Int):Int):=odA;first | exact h_ | (have e_:=(Kd.S_reads' HO_y1.out).1;omega) | simpa using h_) (seg:=[.int .i64 t105,.int .i64 t106,.slice Aox1 t107.length cox2,.int .i64 t110,.slice Aox2 t111.length cox3]) (j:=0) (show 5≤5 from by decide) (x':=(⟨t105,t106,t107,(⟨t110,t111⟩:S71)⟩:S162)) (k162_mkM _ _ _ (⟨t105,t106,t107,(⟨t110,t111⟩:S71)⟩:S162) (Kd.R_mono (Kd.R_tight rfl (Kd.R_mono (ok':=fun k_=>((fun _=>True)) k_∧k_ ≠ gox1) (Kd.R_apart' (HOx1.out) (Kd.S_typed HO_y1.out) (by decide)) (fun k_ hk=>⟨trivial,fun e_=>(hk.2) (by rw[e_];rfl)⟩))) (fun _ h_=>Or.inr (Or.inl h_))) (Kd.R_mono (Kd.R_tight rfl (Kd.R_mono (ok':=fun k_=>((fun _=>True)) k_∧k_ ≠ gox1) (Kd.R_apart' (HOx2.out) (Kd.S_typed HO_y1.out) (by decide)) (fun k_ hk=>⟨trivial,fun e_=>(hk.2) (by rw[e_];rfl)⟩))) (fun _ h_=>Or.inr (Or.inr (h_))))) (fun _ hk=>hk) (fun k_ hk_=>hk_.elim (fun h_=>((Kd.R_mono (ok':=fun k_=>((fun _=>True)) k_∧k_ ≠ gox1) (Kd.R_apart' (HOx1.out) (Kd.S_typed HO_y1.out) (by decide)) (fun k_ hk=>⟨trivial,fun e_=>(hk.2) (by rw[e_];rfl)⟩))).1 k_ h_.symm) (fun h_=>((Kd.R_mono (ok':=fun k_=>((fun _=>True)) k_∧k_ ≠ gox1) (Kd.R_apart' (HOx2.out) (Kd.S_typed HO_y1.out) (by decide)) (fun k_ hk=>⟨trivial,fun e_=>(hk.2) (by rw[e_];rfl)⟩))).1 k_ h_.symm));have hxx11:=hccx2 0 _ rfl;(try simp only[show (k162).sz=5 from rfl,Nat.mul_one,Nat.add_zero] at hxx11);have hfx6:=hfrx2 0;(try simp only[show (k162).sz=5 from rfl,Nat.mul_one,Nat.add_zero] at hfx6);have hxx12:=hccx2 1 _ rfl;(try simp only[show (k162).sz=5 from rfl,Nat.mul_one,Nat.add_zero] at hxx12);have hfx7:=hfrx2 1;(try simp only[show (k162).sz=5 from rfl,Nat.mul_one,Nat.add_zero] at hfx7);have hxx13:=hccx2 2 _ rfl;(try simp only[show (k162).sz=5 from rfl,Nat.mul_one,Nat.add_zero] at hxx13);have hfx8:=hfrx2 2;(try simp only[show (k162).sz=5 from rfl,Nat.mul_one,Nat.add_zero] at hfx8);have hxx14:=hccx2 3 _ rfl;(try simp only[show (k162).sz=5 from rfl,Nat.mul_one,Nat.add_zero] at hxx14);have hfx9:=hfrx2 3;(try simp only[show (k162).sz=5 from rfl,Nat.mul_one,Nat.add_zero] at hfx9);have hxx15:=hccx2 4 _ rfl;(try simp only[show (k162).sz=5 from rfl,Nat.mul_one,Nat.add_zero] at hxx15);have hfx10:=hfrx2 4;(try simp only[show (k162).sz=5 from rfl,Nat.mul_one,Nat.add_zero] at hfx10);clear hclx2 hccx2 hfrx2 hMx2 hokix1 hHx1) | ((with_reducible refine gate_store (t:=162) (p:=21) rfl ?_);refine store_event (t:=162) (p:=21) (v:=?vo_wx2) (w1:=(((((wx1.setCell ⟨gox1,(x4_1:Int).toNat * 5,none⟩ (.int .i64 t105)).setCell ⟨gox1,(x4_1:Int).toNat * 5+1,none⟩ (.int .i64 t106)).setCell ⟨gox1,(x4_1:Int).toNat * 5+2,none⟩ (.slice Aox1 t107.length cox2)).setCell ⟨gox1,(x4_1:Int).toNat * 5+3,none⟩ (.int .i64 t110)).setCell ⟨gox1,(x4_1:Int).toNat * 5+4,none⟩ (.slice Aox2 t111.length cox3))) ?hg ?ho ?hn ?hr ?_;(case ho=>rfl);(case hg=>rfl);(case hn=>rfl);(case hr=>first | (go_simp;done) | (go_simp;rfl));intro wx2 hw;have hg:wx1.grownBy wx2 (some gox1):=(by rw[hw];exact HPx1.2);have hp_:Kd.S k162 162 wx2 w.heap.size (fun _=>True) (.slice (some ⟨gox1,0,none⟩) x3_1.length cox1) y114:=(by rw[hw,Ny114.out];exact HPx1.1);clear HPx1;replace HO_y1:=aM (hp_);replace HB:=aM ((by rw[hw];exact below_set (below_set (below_set (below_set (below_set (HB.out) GBx1.out) GBx1.out) GBx1.out) GBx1.out) GBx1.out:Below w.heap.size w wx2));clear HOx1 HOx2;clear hg hw hp_))
   go_roundg k1
   case measure=>have:=HKy1.out;omega
   case rel=>exact⟨(y114),(wrap64 (x4_1+1)),rS,H',⟨by have:=HKy1.out;omega⟩,⟨(sX HO_y1.out)⟩,⟨(hX HB.out)⟩⟩
def XJ.l0:Nat→List (S114)→List (S97)→Int→Option ((List (S97)))
 | 0,_,_,_=>none
 | k+1,x0,x3,x4=>if x4<(x0.length:Int) then (if 0≤x4 then ((XaV.f k ((rd_T114 x0 x4).f0) ((rd_T114 x0 x4).f1) ((rd_T114 x0 x4).f2) ((rd_T114 x0 x4).f3) ((rd_T114 x0 x4).f4)).bind fun bt105=>(if x4<(x3.length:Int) then (XJ.l0 k x0 (x3.set (x4:Int).toNat (⟨bt105.1,bt105.2.1,bt105.2.2.1,bt105.2.2.2.1,bt105.2.2.2.2⟩:S97)) (wrap64 (x4+1))) else (none))) else (none)) else (some x3)
def XJ.f (k:Nat) (l0:List (S114)):Option ((List (S97))):=if 0≤(l0.length:Int) then (if ((l0.length:Int):Int).toNat≤3198579280802 then (XJ.l0 k l0 (List.replicate ((l0.length:Int):Int).toNat z97) 0) else (none)) else (none)
theorem XJ.calls (k:Nat) (A0:Option Addr) (c0:Nat) (l0:List (S114)) (r:List (S97)) (w:World) (h0:Rw k114 w A0 c0 l0) (H:XJ.f k l0=some r) :
  Calls Tryz.prog 45 #[.slice A0 l0.length c0] w fun e w'=>∃ v0_:Value,e = .returned (v0_)∧Kd.S k97 97 w' w.heap.size (fun _=>True) v0_ r∧Below w.heap.size w w':=by
 have hu114:=Tryz.underlying114
 have hu97:=Tryz.underlying97
 obtain⟨HR0,HC0⟩:=h0
 have HB:=aM (Below.refl w.heap.size w)
 unfold XJ.f at H
 replace H:=ifP H;obtain⟨c2,H⟩:=H
 have c2b0:=eq_true c2
 have c2b1:=decide_eq_true c2
 clear c2
 replace H:=ifP H;obtain⟨c3,H⟩:=H
 have c3b0:=eq_true c3
 have c3b1:=decide_eq_true c3
 clear c3
 obtain⟨y101,hy101⟩:∃ y_:List (S97),y_=(List.replicate ((l0.length:Int):Int).toNat z97):=⟨_,rfl⟩
 replace H:(XJ.l0 k l0 y101 0)=some r:=yH H hy101
 have Ny101:=aM hy101
 clear hy101
 have H':=aM H
 clear H
 go_enter Tryz.func45,Tryz.ntmps45
 go_wp2_with ((with_reducible refine gate_dst (N:=7) rfl ?_);refine Kd.S_make k97 _ 97 rfl (N:=7) rfl 39 _ _ rfl (l0.length:Int) rfl rfl Tryz.underlying39 (.agg #[(.slice none 0 0),(.int .i64 0),(.bool false),(.slice none 0 0),(.slice none 0 0)]) 88 info97 rfl (by decide) (by omega) z97 (ok:=fun _=>True) (okp:=fun _=>True) (k97_mkM _ _ _ z97 (Kd.R_nil _ _ _ _ _) (Kd.R_nil _ _ _ _ _) (Kd.R_nil _ _ _ _ _)) (fun _ hk=>hk) trivial (odA) (Nat.le_trans (Nat.mul_le_mul_right _ (odA:(l0.length:Int).toNat≤3198579280802)) (by omega)) (Below.refl _ _) (Nat.le_refl _) ?_;intro vz1 wz1 hoz1 hb hg_ hnew_;clear hg_ hnew_;(first | rw[← Ny101.out] at hoz1 | (simp only[Int.reduceToNat] at hoz1;rw[← Ny101.out] at hoz1));have HOz1:=aM (Kd.S_lower hoz1 (below_size (hX HB.out)));replace HB:=aS HB hb;clear hb hoz1)
 go_loopg [4] k (fun kq v4 w'=>∃ (x3_1:List (S97)) (x4_1:Int),v4 = .int .i64 x4_1∧Aside0 (XJ.l0 kq l0 x3_1 x4_1=some r)∧Aside0 (kq≤k)∧Aside0 (Kd.S k97 97 w' w.heap.size (fun _=>True) vz1 x3_1)∧Aside0 (Below w.heap.size w w'))
 case atStart=>exact⟨(y101),(0),rS,H',⟨Nat.le_refl _⟩,⟨(sX HOz1.out)⟩,⟨(hX HB.out)⟩⟩
 case round =>
  clear H'
  try clear c2
  try clear c2b0
  try clear c2b1
  try clear c3
  try clear c3b0
  try clear c3b1
  obtain⟨x3_1,x4_1,rfl,HA,HKy1,HO_y1,HB⟩:=hrel
  cases gk with
  | zero=>exact absurd HA.out (by simp[XJ.l0])
  | succ k1 =>
   have H:=HA.out
   clear HA
   simp only[XJ.l0] at H
   revert H;refine iN ?_ ?_<;>intro c6b0 H
   ·obtain rfl:=sI H
    go_wp2
    go_ret
    exact⟨_,rE,(sX HO_y1.out),(hX HB.out)⟩
   replace H:=ifQ H;obtain⟨c7b0,H⟩:=H
   replace H:=bE H;obtain⟨⟨t105,t108,t109,t110,t113⟩,A8,H⟩:=H
   try dsimp only at H
   replace H:=ifQ H;obtain⟨c9b0,H⟩:=H
   obtain⟨y116,hy116⟩:∃ y_:List (S97),y_=(x3_1.set (x4_1:Int).toNat (⟨t105,t108,t109,t110,t113⟩:S97)):=⟨_,rfl⟩
   replace H:(XJ.l0 k1 l0 y116 (wrap64 (x4_1+1)))=some r:=yH H hy116
   have Ny116:=aM hy116
   clear hy116
   have H':=aM H
   clear H
   obtain⟨adx1,Ax1,cx1,Ax2,cx2,Ax3,cx3,ex1,px1,qx1,hxx1,HCx1,HRx1,HCx2,HRx2,HCx3,HRx3⟩:=at_T114c HR0 HB x4_1
   cases ex1
   go_wp2_with (first | (refine goesM 99 20 Tryz.func99 #[.agg #[.slice Ax1 ((rd_T114 l0 x4_1).f0).length cx1,.int .i64 ((rd_T114 l0 x4_1).f1),.bool ((rd_T114 l0 x4_1).f2),.slice Ax2 ((rd_T114 l0 x4_1).f3).length cx2,.slice Ax3 ((rd_T114 l0 x4_1).f4).length cx3]] ?_;refine(XaV.calls _ _ _ _ _ _ _ _ _ _ _ _ _ _ _ _ _ _ (rW HRx1 HB HCx1) (rW HRx2 HB HCx2) (rW HRx3 HB HCx3) A8.out).mono ?_;rintro e wx1 ⟨vx1,vx2,vx3,rfl,hox1,hox2,hox3,hb⟩;refine⟨_,rfl,?_⟩;have HOx1:=aM (Kd.R_lower hox1 (below_size (hX HB.out)));have HOx2:=aM (Kd.R_lower hox2 (below_size (hX HB.out)));have HOx3:=aM (Kd.R_lower hox3 (below_size (hX HB.out)));replace HO_y1:=aM (Kd.S_mono (Kd.S_told (Kd.S_told (Kd.S_told (Kd.S_old (sX HO_y1.out) hb) (Kd.R_base hox1)) (Kd.R_base hox2)) (Kd.R_base hox3)) (fun _ h_=>h_.1));replace HB:=aS HB hb;clear hb hox1 hox2 hox3;have px2:0≤(x4_1:Int):=odA;have qx2:(x4_1:Int)<((x3_1.length:Int):Int):=odA;obtain⟨gox1,cox1,eox1,gbx1,glx1,clx1,HGx1⟩:=Kd.S_form HO_y1.out (by omega);(first | cases eox1 | (injection eox1 with ea_ en_ ec_;(first | subst ea_ | (injection ea_ with ea_;subst ea_));subst ec_;clear en_));have GBx1:=aM gbx1;have GGx1:=aM HGx1;clear gbx1 glx1 HGx1;obtain⟨_,cex1,hclx1,hMx1,hccx1,hfrx1,_,_⟩:=Kd.S_elem HO_y1.out z97 (x4_1:Int) px2 qx2;obtain⟨vex1,vex2,vex3,rfl,gex1,gex2,gex3⟩:=k97_openM hMx1;have hxx6:wx1.cell? ⟨gox1,(x4_1:Int).toNat * 5,none⟩=some (vex1):=hccx1 0 _ rfl;have hxx7:wx1.cell? ⟨gox1,(x4_1:Int).toNat * 5+1,none⟩=some (.int .i64 ((rd_T97 x3_1 x4_1).f1)):=hccx1 1 _ rfl;have hxx8:wx1.cell? ⟨gox1,(x4_1:Int).toNat * 5+2,none⟩=some (.bool ((rd_T97 x3_1 x4_1).f2)):=hccx1 2 _ rfl;have hxx9:wx1.cell? ⟨gox1,(x4_1:Int).toNat * 5+3,none⟩=some (vex2):=hccx1 3 _ rfl;have hxx10:wx1.cell? ⟨gox1,(x4_1:Int).toNat * 5+4,none⟩=some (vex3):=hccx1 4 _ rfl;have hfx1:wx1.frozen? ⟨gox1,(x4_1:Int).toNat * 5,none⟩=false:=hfrx1 0;have hfx2:wx1.frozen? ⟨gox1,(x4_1:Int).toNat * 5+1,none⟩=false:=hfrx1 1;have hfx3:wx1.frozen? ⟨gox1,(x4_1:Int).toNat * 5+2,none⟩=false:=hfrx1 2;have hfx4:wx1.frozen? ⟨gox1,(x4_1:Int).toNat * 5+3,none⟩=false:=hfrx1 3;have hfx5:wx1.frozen? ⟨gox1,(x4_1:Int).toNat * 5+4,none⟩=false:=hfrx1 4;clear hclx1 hccx1 hfrx1 hMx1;replace px2:=eq_true px2;replace qx2:=eq_true qx2;obtain⟨Aox1,cox2,eox2⟩:=Kd.R_slice HOx1.out;subst eox2;obtain⟨Aox2,cox3,eox3⟩:=Kd.R_slice HOx2.out;subst eox3;obtain⟨Aox3,cox4,eox4⟩:=Kd.R_slice HOx3.out;subst eox4;have n_:=aM (Kd.S_mono (ok':=(fun k_=>some k_ ≠ (.slice Aox1 t105.length cox2:Value).ownBlock∧some k_ ≠ (.slice Aox2 t110.length cox3:Value).ownBlock∧some k_ ≠ (.slice Aox3 t113.length cox4:Value).ownBlock)) HO_y1.out (fun k_ hk=>⟨hk.1.1.2,⟨hk.1.2,hk.2⟩⟩));clear HO_y1;have HO_y1:=n_;clear n_;have HXx1:=aM (show Kd.S k97 97 wx1 w.heap.size (fun k_=>((fun _=>True)) k_∧¬ ((fun k_=>some k_=(.slice Aox1 t105.length cox2:Value).ownBlock ∨ some k_=(.slice Aox2 t110.length cox3:Value).ownBlock ∨ some k_=(.slice Aox3 t113.length cox4:Value).ownBlock)) k_) (.slice (some ⟨gox1,0,none⟩) x3_1.length cox1) x3_1 from (by (with_reducible repeat (first | apply Kd.S_alloc | apply Kd.S_drewN | apply Kd.S_drew));exact Kd.S_mono HO_y1.out (fun k_ hk=>⟨trivial,fun e_=>e_.elim (fun h_=>hk.1 h_) (fun h_=>h_.elim (fun h_=>hk.2.1 h_) (fun h_=>hk.2.2 h_))⟩)));obtain⟨okix1,cex2,hclx2,hMx2,hccx2,hfrx2,hokix1,hHx1⟩:=Kd.S_elem HXx1.out z97 (x4_1:Int) (odA) (by have h_:(x4_1:Int)<((x3_1.length:Int):Int):=odA;first | exact h_ | (have e_:=(Kd.S_reads' HO_y1.out).1;omega) | simpa using h_);obtain⟨vex4,vex5,vex6,rfl,gex4,gex5,gex6⟩:=k97_openM hMx2;have HPx1:=Kd.S_seg hHx1 (odA) (by have h_:(x4_1:Int)<((x3_1.length:Int):Int):=odA;first | exact h_ | (have e_:=(Kd.S_reads' HO_y1.out).1;omega) | simpa using h_) (seg:=[.slice Aox1 t105.length cox2,.int .i64 t108,.bool t109,.slice Aox2 t110.length cox3,.slice Aox3 t113.length cox4]) (j:=0) (show 5≤5 from by decide) (x':=(⟨t105,t108,t109,t110,t113⟩:S97)) (k97_mkM _ _ _ (⟨t105,t108,t109,t110,t113⟩:S97) (Kd.R_mono (Kd.R_tight rfl (Kd.R_mono (ok':=fun k_=>((fun _=>True)) k_∧k_ ≠ gox1) (Kd.R_apart' (HOx1.out) (Kd.S_typed HO_y1.out) (by decide)) (fun k_ hk=>⟨trivial,fun e_=>(hk.2) (by rw[e_];rfl)⟩))) (fun _ h_=>Or.inr (Or.inl h_))) (Kd.R_mono (Kd.R_tight rfl (Kd.R_mono (ok':=fun k_=>((fun _=>True)) k_∧k_ ≠ gox1) (Kd.R_apart' (HOx2.out) (Kd.S_typed HO_y1.out) (by decide)) (fun k_ hk=>⟨trivial,fun e_=>(hk.2) (by rw[e_];rfl)⟩))) (fun _ h_=>Or.inr (Or.inr (Or.inl h_)))) (Kd.R_mono (Kd.R_tight rfl (Kd.R_mono (ok':=fun k_=>((fun _=>True)) k_∧k_ ≠ gox1) (Kd.R_apart' (HOx3.out) (Kd.S_typed HO_y1.out) (by decide)) (fun k_ hk=>⟨trivial,fun e_=>(hk.2) (by rw[e_];rfl)⟩))) (fun _ h_=>Or.inr (Or.inr (Or.inr (h_)))))) (fun _ hk=>hk) (fun k_ hk_=>hk_.elim (fun h_=>((Kd.R_mono (ok':=fun k_=>((fun _=>True)) k_∧k_ ≠ gox1) (Kd.R_apart' (HOx1.out) (Kd.S_typed HO_y1.out) (by decide)) (fun k_ hk=>⟨trivial,fun e_=>(hk.2) (by rw[e_];rfl)⟩))).1 k_ h_.symm) (fun h_=>h_.elim (fun h_=>((Kd.R_mono (ok':=fun k_=>((fun _=>True)) k_∧k_ ≠ gox1) (Kd.R_apart' (HOx2.out) (Kd.S_typed HO_y1.out) (by decide)) (fun k_ hk=>⟨trivial,fun e_=>(hk.2) (by rw[e_];rfl)⟩))).1 k_ h_.symm) (fun h_=>((Kd.R_mono (ok':=fun k_=>((fun _=>True)) k_∧k_ ≠ gox1) (Kd.R_apart' (HOx3.out) (Kd.S_typed HO_y1.out) (by decide)) (fun k_ hk=>⟨trivial,fun e_=>(hk.2) (by rw[e_];rfl)⟩))).1 k_ h_.symm)));have hxx11:=hccx2 0 _ rfl;(try simp only[show (k97).sz=5 from rfl,Nat.mul_one,Nat.add_zero] at hxx11);have hfx6:=hfrx2 0;(try simp only[show (k97).sz=5 from rfl,Nat.mul_one,Nat.add_zero] at hfx6);have hxx12:=hccx2 1 _ rfl;(try simp only[show (k97).sz=5 from rfl,Nat.mul_one,Nat.add_zero] at hxx12);have hfx7:=hfrx2 1;(try simp only[show (k97).sz=5 from rfl,Nat.mul_one,Nat.add_zero] at hfx7);have hxx13:=hccx2 2 _ rfl;(try simp only[show (k97).sz=5 from rfl,Nat.mul_one,Nat.add_zero] at hxx13);have hfx8:=hfrx2 2;(try simp only[show (k97).sz=5 from rfl,Nat.mul_one,Nat.add_zero] at hfx8);have hxx14:=hccx2 3 _ rfl;(try simp only[show (k97).sz=5 from rfl,Nat.mul_one,Nat.add_zero] at hxx14);have hfx9:=hfrx2 3;(try simp only[show (k97).sz=5 from rfl,Nat.mul_one,Nat.add_zero] at hfx9);have hxx15:=hccx2 4 _ rfl;(try simp only[show (k97).sz=5 from rfl,Nat.mul_one,Nat.add_zero] at hxx15);have hfx10:=hfrx2 4;(try simp only[show (k97).sz=5 from rfl,Nat.mul_one,Nat.add_zero] at hfx10);clear hclx2 hccx2 hfrx2 hMx2 hokix1 hHx1) | ((with_reducible refine gate_store (t:=97) (p:=21) rfl ?_);refine store_event (t:=97) (p:=21) (v:=?vo_wx2) (w1:=(((((wx1.setCell ⟨gox1,(x4_1:Int).toNat * 5,none⟩ (.slice Aox1 t105.length cox2)).setCell ⟨gox1,(x4_1:Int).toNat * 5+1,none⟩ (.int .i64 t108)).setCell ⟨gox1,(x4_1:Int).toNat * 5+2,none⟩ (.bool t109)).setCell ⟨gox1,(x4_1:Int).toNat * 5+3,none⟩ (.slice Aox2 t110.length cox3)).setCell ⟨gox1,(x4_1:Int).toNat * 5+4,none⟩ (.slice Aox3 t113.length cox4))) ?hg ?ho ?hn ?hr ?_;(case ho=>rfl);(case hg=>rfl);(case hn=>rfl);(case hr=>first | (go_simp;done) | (go_simp;rfl));intro wx2 hw;have hg:wx1.grownBy wx2 (some gox1):=(by rw[hw];exact HPx1.2);have hp_:Kd.S k97 97 wx2 w.heap.size (fun _=>True) (.slice (some ⟨gox1,0,none⟩) x3_1.length cox1) y116:=(by rw[hw,Ny116.out];exact HPx1.1);clear HPx1;replace HO_y1:=aM (hp_);replace HB:=aM ((by rw[hw];exact below_set (below_set (below_set (below_set (below_set (HB.out) GBx1.out) GBx1.out) GBx1.out) GBx1.out) GBx1.out:Below w.heap.size w wx2));clear HOx1 HOx2 HOx3;clear hg hw hp_))
   go_roundg k1
   case measure=>have:=HKy1.out;omega
   case rel=>exact⟨(y116),(wrap64 (x4_1+1)),rS,H',⟨by have:=HKy1.out;omega⟩,⟨(sX HO_y1.out)⟩,⟨(hX HB.out)⟩⟩
def X0.l0:Nat→List (S119)→List (S73)→Int→Option ((List (S73)))
 | 0,_,_,_=>none
 | k+1,x0,x3,x4=>if x4<(x0.length:Int) then (if 0≤x4 then ((Xbg.f k ((rd_T119 x0 x4).f0) ((rd_T119 x0 x4).f1.f0) ((rd_T119 x0 x4).f1.f1) ((rd_T119 x0 x4).f1.f2) ((rd_T119 x0 x4).f2) ((rd_T119 x0 x4).f3) ((rd_T119 x0 x4).f4) ((rd_T119 x0 x4).f5.f0) ((rd_T119 x0 x4).f5.f1)).bind fun bt105=>(if x4<(x3.length:Int) then (X0.l0 k x0 (x3.set (x4:Int).toNat (⟨bt105.1,(⟨bt105.2.1,bt105.2.2.1,bt105.2.2.2.1⟩:S69),bt105.2.2.2.2.1,bt105.2.2.2.2.2.1,bt105.2.2.2.2.2.2.1,(⟨bt105.2.2.2.2.2.2.2.1,bt105.2.2.2.2.2.2.2.2⟩:S71)⟩:S73)) (wrap64 (x4+1))) else (none))) else (none)) else (some x3)
def X0.f (k:Nat) (l0:List (S119)):Option ((List (S73))):=if 0≤(l0.length:Int) then (if ((l0.length:Int):Int).toNat≤3198579280802 then (X0.l0 k l0 (List.replicate ((l0.length:Int):Int).toNat z73) 0) else (none)) else (none)
theorem X0.calls (k:Nat) (A0:Option Addr) (c0:Nat) (l0:List (S119)) (r:List (S73)) (w:World) (h0:Rw k119 w A0 c0 l0) (H:X0.f k l0=some r) :
  Calls Tryz.prog 46 #[.slice A0 l0.length c0] w fun e w'=>∃ v0_:Value,e = .returned (v0_)∧Kd.S k73 73 w' w.heap.size (fun _=>True) v0_ r∧Below w.heap.size w w':=by
 have hu119:=Tryz.underlying119
 have hu73:=Tryz.underlying73
 obtain⟨HR0,HC0⟩:=h0
 have HB:=aM (Below.refl w.heap.size w)
 unfold X0.f at H
 replace H:=ifP H;obtain⟨c2,H⟩:=H
 have c2b0:=eq_true c2
 have c2b1:=decide_eq_true c2
 clear c2
 replace H:=ifP H;obtain⟨c3,H⟩:=H
 have c3b0:=eq_true c3
 have c3b1:=decide_eq_true c3
 clear c3
 obtain⟨y101,hy101⟩:∃ y_:List (S73),y_=(List.replicate ((l0.length:Int):Int).toNat z73):=⟨_,rfl⟩
 replace H:(X0.l0 k l0 y101 0)=some r:=yH H hy101
 have Ny101:=aM hy101
 clear hy101
 have H':=aM H
 clear H
 go_enter Tryz.func46,Tryz.ntmps46
 go_wp2_with ((with_reducible refine gate_dst (N:=7) rfl ?_);refine Kd.S_make k73 _ 73 rfl (N:=7) rfl 40 _ _ rfl (l0.length:Int) rfl rfl Tryz.underlying40 (.agg #[(.int .i64 0),(.int .i64 0),(.int .i64 0),(.int .i64 0),(.int .i64 0),(.int .i64 0),(.int .i64 0),(.int .i64 0),(.slice none 0 0)]) 88 info73 rfl (by decide) (by omega) z73 (ok:=fun _=>True) (okp:=fun _=>True) (k73_mkM _ _ _ z73 (Kd.R_nil _ _ _ _ _)) (fun _ hk=>hk) trivial (odA) (Nat.le_trans (Nat.mul_le_mul_right _ (odA:(l0.length:Int).toNat≤3198579280802)) (by omega)) (Below.refl _ _) (Nat.le_refl _) ?_;intro vz1 wz1 hoz1 hb hg_ hnew_;clear hg_ hnew_;(first | rw[← Ny101.out] at hoz1 | (simp only[Int.reduceToNat] at hoz1;rw[← Ny101.out] at hoz1));have HOz1:=aM (Kd.S_lower hoz1 (below_size (hX HB.out)));replace HB:=aS HB hb;clear hb hoz1)
 go_loopg [4] k (fun kq v4 w'=>∃ (x3_1:List (S73)) (x4_1:Int),v4 = .int .i64 x4_1∧Aside0 (X0.l0 kq l0 x3_1 x4_1=some r)∧Aside0 (kq≤k)∧Aside0 (Kd.S k73 73 w' w.heap.size (fun _=>True) vz1 x3_1)∧Aside0 (Below w.heap.size w w'))
 case atStart=>exact⟨(y101),(0),rS,H',⟨Nat.le_refl _⟩,⟨(sX HOz1.out)⟩,⟨(hX HB.out)⟩⟩
 case round =>
  clear H'
  try clear c2
  try clear c2b0
  try clear c2b1
  try clear c3
  try clear c3b0
  try clear c3b1
  obtain⟨x3_1,x4_1,rfl,HA,HKy1,HO_y1,HB⟩:=hrel
  cases gk with
  | zero=>exact absurd HA.out (by simp[X0.l0])
  | succ k1 =>
   have H:=HA.out
   clear HA
   simp only[X0.l0] at H
   revert H;refine iN ?_ ?_<;>intro c6b0 H
   ·obtain rfl:=sI H
    go_wp2
    go_ret
    exact⟨_,rE,(sX HO_y1.out),(hX HB.out)⟩
   replace H:=ifQ H;obtain⟨c7b0,H⟩:=H
   replace H:=bE H;obtain⟨⟨t105,t106,t107,t108,t109,t110,t111,t112,t113⟩,A8,H⟩:=H
   try dsimp only at H
   replace H:=ifQ H;obtain⟨c9b0,H⟩:=H
   obtain⟨y116,hy116⟩:∃ y_:List (S73),y_=(x3_1.set (x4_1:Int).toNat (⟨t105,(⟨t106,t107,t108⟩:S69),t109,t110,t111,(⟨t112,t113⟩:S71)⟩:S73)):=⟨_,rfl⟩
   replace H:(X0.l0 k1 l0 y116 (wrap64 (x4_1+1)))=some r:=yH H hy116
   have Ny116:=aM hy116
   clear hy116
   have H':=aM H
   clear H
   obtain⟨adx1,Ax1,cx1,ex1,px1,qx1,hxx1,HCx1,HRx1⟩:=at_T119c HR0 HB x4_1
   cases ex1
   go_wp2_with (first | (refine goesM 100 20 Tryz.func100 #[.agg #[.int .i64 ((rd_T119 l0 x4_1).f0),.int .i64 ((rd_T119 l0 x4_1).f1.f0),.int .i64 ((rd_T119 l0 x4_1).f1.f1),.int .i64 ((rd_T119 l0 x4_1).f1.f2),.int .i64 ((rd_T119 l0 x4_1).f2),.int .i64 ((rd_T119 l0 x4_1).f3),.int .i64 ((rd_T119 l0 x4_1).f4),.int .i64 ((rd_T119 l0 x4_1).f5.f0),.slice Ax1 ((rd_T119 l0 x4_1).f5.f1).length cx1]] ?_;refine(Xbg.calls _ _ _ _ _ _ _ _ _ _ _ _ _ _ _ _ _ _ _ _ _ _ (rW HRx1 HB HCx1) A8.out).mono ?_;rintro e wx1 ⟨vx1,rfl,hox1,hb⟩;refine⟨_,rfl,?_⟩;have HOx1:=aM (Kd.R_lower hox1 (below_size (hX HB.out)));replace HO_y1:=aM (Kd.S_elder' (sX HO_y1.out) (Kd.R_base hox1) hb);replace HB:=aS HB hb;clear hb hox1;have px2:0≤(x4_1:Int):=odA;have qx2:(x4_1:Int)<((x3_1.length:Int):Int):=odA;obtain⟨gox1,cox1,eox1,gbx1,glx1,clx1,HGx1⟩:=Kd.S_form HO_y1.out (by omega);(first | cases eox1 | (injection eox1 with ea_ en_ ec_;(first | subst ea_ | (injection ea_ with ea_;subst ea_));subst ec_;clear en_));have GBx1:=aM gbx1;have GGx1:=aM HGx1;clear gbx1 glx1 HGx1;obtain⟨_,cex1,hclx1,hMx1,hccx1,hfrx1,_,_⟩:=Kd.S_elem HO_y1.out z73 (x4_1:Int) px2 qx2;obtain⟨vex1,rfl,gex1⟩:=k73_openM hMx1;have hxx10:wx1.cell? ⟨gox1,(x4_1:Int).toNat * 9,none⟩=some (.int .i64 ((rd_T73 x3_1 x4_1).f0)):=hccx1 0 _ rfl;have hxx11:wx1.cell? ⟨gox1,(x4_1:Int).toNat * 9+1,none⟩=some (.int .i64 ((rd_T73 x3_1 x4_1).f1.f0)):=hccx1 1 _ rfl;have hxx12:wx1.cell? ⟨gox1,(x4_1:Int).toNat * 9+2,none⟩=some (.int .i64 ((rd_T73 x3_1 x4_1).f1.f1)):=hccx1 2 _ rfl;have hxx13:wx1.cell? ⟨gox1,(x4_1:Int).toNat * 9+3,none⟩=some (.int .i64 ((rd_T73 x3_1 x4_1).f1.f2)):=hccx1 3 _ rfl;have hxx14:wx1.cell? ⟨gox1,(x4_1:Int).toNat * 9+4,none⟩=some (.int .i64 ((rd_T73 x3_1 x4_1).f2)):=hccx1 4 _ rfl;have hxx15:wx1.cell? ⟨gox1,(x4_1:Int).toNat * 9+5,none⟩=some (.int .i64 ((rd_T73 x3_1 x4_1).f3)):=hccx1 5 _ rfl;have hxx16:wx1.cell? ⟨gox1,(x4_1:Int).toNat * 9+6,none⟩=some (.int .i64 ((rd_T73 x3_1 x4_1).f4)):=hccx1 6 _ rfl;have hxx17:wx1.cell? ⟨gox1,(x4_1:Int).toNat * 9+7,none⟩=some (.int .i64 ((rd_T73 x3_1 x4_1).f5.f0)):=hccx1 7 _ rfl;have hxx18:wx1.cell? ⟨gox1,(x4_1:Int).toNat * 9+8,none⟩=some (vex1):=hccx1 8 _ rfl;have hfx1:wx1.frozen? ⟨gox1,(x4_1:Int).toNat * 9,none⟩=false:=hfrx1 0;have hfx2:wx1.frozen? ⟨gox1,(x4_1:Int).toNat * 9+1,none⟩=false:=hfrx1 1;have hfx3:wx1.frozen? ⟨gox1,(x4_1:Int).toNat * 9+2,none⟩=false:=hfrx1 2;have hfx4:wx1.frozen? ⟨gox1,(x4_1:Int).toNat * 9+3,none⟩=false:=hfrx1 3;have hfx5:wx1.frozen? ⟨gox1,(x4_1:Int).toNat * 9+4,none⟩=false:=hfrx1 4;have hfx6:wx1.frozen? ⟨gox1,(x4_1:Int).toNat * 9+5,none⟩=false:=hfrx1 5;have hfx7:wx1.frozen? ⟨gox1,(x4_1:Int).toNat * 9+6,none⟩=false:=hfrx1 6;have hfx8:wx1.frozen? ⟨gox1,(x4_1:Int).toNat * 9+7,none⟩=false:=hfrx1 7;have hfx9:wx1.frozen? ⟨gox1,(x4_1:Int).toNat * 9+8,none⟩=false:=hfrx1 8;clear hclx1 hccx1 hfrx1 hMx1;replace px2:=eq_true px2;replace qx2:=eq_true qx2;obtain⟨Aox1,cox2,eox2⟩:=Kd.R_slice HOx1.out;subst eox2;have n_:=aM (Kd.S_mono (ok':=(fun k_=>some k_ ≠ (.slice Aox1 t113.length cox2:Value).ownBlock)) HO_y1.out (fun k_ hk=>hk.2));clear HO_y1;have HO_y1:=n_;clear n_;have HXx1:=aM (show Kd.S k73 73 wx1 w.heap.size (fun k_=>((fun _=>True)) k_∧¬ ((fun k_=>some k_=(.slice Aox1 t113.length cox2:Value).ownBlock)) k_) (.slice (some ⟨gox1,0,none⟩) x3_1.length cox1) x3_1 from (by (with_reducible repeat (first | apply Kd.S_alloc | apply Kd.S_drewN | apply Kd.S_drew));exact Kd.S_mono HO_y1.out (fun k_ hk=>⟨trivial,fun e_=>hk e_⟩)));obtain⟨okix1,cex2,hclx2,hMx2,hccx2,hfrx2,hokix1,hHx1⟩:=Kd.S_elem HXx1.out z73 (x4_1:Int) (odA) (by have h_:(x4_1:Int)<((x3_1.length:Int):Int):=odA;first | exact h_ | (have e_:=(Kd.S_reads' HO_y1.out).1;omega) | simpa using h_);obtain⟨vex2,rfl,gex2⟩:=k73_openM hMx2;have HPx1:=Kd.S_seg hHx1 (odA) (by have h_:(x4_1:Int)<((x3_1.length:Int):Int):=odA;first | exact h_ | (have e_:=(Kd.S_reads' HO_y1.out).1;omega) | simpa using h_) (seg:=[.int .i64 t105,.int .i64 t106,.int .i64 t107,.int .i64 t108,.int .i64 t109,.int .i64 t110,.int .i64 t111,.int .i64 t112,.slice Aox1 t113.length cox2]) (j:=0) (show 9≤9 from by decide) (x':=(⟨t105,(⟨t106,t107,t108⟩:S69),t109,t110,t111,(⟨t112,t113⟩:S71)⟩:S73)) (k73_mkM _ _ _ (⟨t105,(⟨t106,t107,t108⟩:S69),t109,t110,t111,(⟨t112,t113⟩:S71)⟩:S73) (Kd.R_mono (Kd.R_tight rfl (Kd.R_mono (ok':=fun k_=>((fun _=>True)) k_∧k_ ≠ gox1) (Kd.R_apart' (HOx1.out) (Kd.S_typed HO_y1.out) (by decide)) (fun k_ hk=>⟨trivial,fun e_=>(hk.2) (by rw[e_];rfl)⟩))) (fun _ h_=>Or.inr (h_)))) (fun _ hk=>hk) (fun k_ hk_=>((Kd.R_mono (ok':=fun k_=>((fun _=>True)) k_∧k_ ≠ gox1) (Kd.R_apart' (HOx1.out) (Kd.S_typed HO_y1.out) (by decide)) (fun k_ hk=>⟨trivial,fun e_=>(hk.2) (by rw[e_];rfl)⟩))).1 k_ hk_.symm);have hxx19:=hccx2 0 _ rfl;(try simp only[show (k73).sz=9 from rfl,Nat.mul_one,Nat.add_zero] at hxx19);have hfx10:=hfrx2 0;(try simp only[show (k73).sz=9 from rfl,Nat.mul_one,Nat.add_zero] at hfx10);have hxx20:=hccx2 1 _ rfl;(try simp only[show (k73).sz=9 from rfl,Nat.mul_one,Nat.add_zero] at hxx20);have hfx11:=hfrx2 1;(try simp only[show (k73).sz=9 from rfl,Nat.mul_one,Nat.add_zero] at hfx11);have hxx21:=hccx2 2 _ rfl;(try simp only[show (k73).sz=9 from rfl,Nat.mul_one,Nat.add_zero] at hxx21);have hfx12:=hfrx2 2;(try simp only[show (k73).sz=9 from rfl,Nat.mul_one,Nat.add_zero] at hfx12);have hxx22:=hccx2 3 _ rfl;(try simp only[show (k73).sz=9 from rfl,Nat.mul_one,Nat.add_zero] at hxx22);have hfx13:=hfrx2 3;(try simp only[show (k73).sz=9 from rfl,Nat.mul_one,Nat.add_zero] at hfx13);have hxx23:=hccx2 4 _ rfl;(try simp only[show (k73).sz=9 from rfl,Nat.mul_one,Nat.add_zero] at hxx23);have hfx14:=hfrx2 4;(try simp only[show (k73).sz=9 from rfl,Nat.mul_one,Nat.add_zero] at hfx14);have hxx24:=hccx2 5 _ rfl;(try simp only[show (k73).sz=9 from rfl,Nat.mul_one,Nat.add_zero] at hxx24);have hfx15:=hfrx2 5;(try simp only[show (k73).sz=9 from rfl,Nat.mul_one,Nat.add_zero] at hfx15);have hxx25:=hccx2 6 _ rfl;(try simp only[show (k73).sz=9 from rfl,Nat.mul_one,Nat.add_zero] at hxx25);have hfx16:=hfrx2 6;(try simp only[show (k73).sz=9 from rfl,Nat.mul_one,Nat.add_zero] at hfx16);have hxx26:=hccx2 7 _ rfl;(try simp only[show (k73).sz=9 from rfl,Nat.mul_one,Nat.add_zero] at hxx26);have hfx17:=hfrx2 7;(try simp only[show (k73).sz=9 from rfl,Nat.mul_one,Nat.add_zero] at hfx17);have hxx27:=hccx2 8 _ rfl;(try simp only[show (k73).sz=9 from rfl,Nat.mul_one,Nat.add_zero] at hxx27);have hfx18:=hfrx2 8;(try simp only[show (k73).sz=9 from rfl,Nat.mul_one,Nat.add_zero] at hfx18);clear hclx2 hccx2 hfrx2 hMx2 hokix1 hHx1) | ((with_reducible refine gate_store (t:=73) (p:=21) rfl ?_);refine store_event (t:=73) (p:=21) (v:=?vo_wx2) (w1:=(((((((((wx1.setCell ⟨gox1,(x4_1:Int).toNat * 9,none⟩ (.int .i64 t105)).setCell ⟨gox1,(x4_1:Int).toNat * 9+1,none⟩ (.int .i64 t106)).setCell ⟨gox1,(x4_1:Int).toNat * 9+2,none⟩ (.int .i64 t107)).setCell ⟨gox1,(x4_1:Int).toNat * 9+3,none⟩ (.int .i64 t108)).setCell ⟨gox1,(x4_1:Int).toNat * 9+4,none⟩ (.int .i64 t109)).setCell ⟨gox1,(x4_1:Int).toNat * 9+5,none⟩ (.int .i64 t110)).setCell ⟨gox1,(x4_1:Int).toNat * 9+6,none⟩ (.int .i64 t111)).setCell ⟨gox1,(x4_1:Int).toNat * 9+7,none⟩ (.int .i64 t112)).setCell ⟨gox1,(x4_1:Int).toNat * 9+8,none⟩ (.slice Aox1 t113.length cox2))) ?hg ?ho ?hn ?hr ?_;(case ho=>rfl);(case hg=>rfl);(case hn=>rfl);(case hr=>first | (go_simp;done) | (go_simp;rfl));intro wx2 hw;have hg:wx1.grownBy wx2 (some gox1):=(by rw[hw];exact HPx1.2);have hp_:Kd.S k73 73 wx2 w.heap.size (fun _=>True) (.slice (some ⟨gox1,0,none⟩) x3_1.length cox1) y116:=(by rw[hw,Ny116.out];exact HPx1.1);clear HPx1;replace HO_y1:=aM (hp_);replace HB:=aM ((by rw[hw];exact below_set (below_set (below_set (below_set (below_set (below_set (below_set (below_set (below_set (HB.out) GBx1.out) GBx1.out) GBx1.out) GBx1.out) GBx1.out) GBx1.out) GBx1.out) GBx1.out) GBx1.out:Below w.heap.size w wx2));clear HOx1;clear hg hw hp_))
   go_roundg k1
   case measure=>have:=HKy1.out;omega
   case rel=>exact⟨(y116),(wrap64 (x4_1+1)),rS,H',⟨by have:=HKy1.out;omega⟩,⟨(sX HO_y1.out)⟩,⟨(hX HB.out)⟩⟩
end Go.Proofs.YtmljebgideecjaaGreat.P2
