/- A part of the proof of the law FnExactJudgeWords: texts of this seat, merged (words, printed functions of the program, plain lemmas). Conditions: none of its own. -/
import Derived.Test.YtmljebgideecjaaGreatP2kFnExactJudgeWords11
set_option linter.unusedSimpArgs false
set_option linter.unusedVariables false
set_option maxHeartbeats 8000000
set_option maxRecDepth 100000
namespace Go.Proofs.YtmljebgideecjaaGreat.P2
open Go.Proofs.YtmljebgideecjaaGreatZ Go.RowKit Go.Proofs.YtmljebgideecjaaGreatW.PrintWords Go.Proofs.YtmljebgideecjaaGreatW.PrintLast Go.Proofs.YtmljebgideecjaaGreatW.PrintMore
attribute [local go_sem] max2_int min2_int max_two min_two max_three min_three max_four min_four   -- for this text's walks alone
def Xal.l0:Nat→List (S116)→List (S69)→Int→Option ((List (S69)))
 | 0,_,_,_=>none
 | k+1,x0,x3,x4=>if x4<(x0.length:Int) then (if 0≤x4 then ((Xa8.f ((rd_T116 x0 x4).f0) ((rd_T116 x0 x4).f1) ((rd_T116 x0 x4).f2)).bind fun bt105=>(if x4<(x3.length:Int) then (Xal.l0 k x0 (x3.set (x4:Int).toNat (⟨bt105.1,bt105.2.1,bt105.2.2⟩:S69)) (wrap64 (x4+1))) else (none))) else (none)) else (some x3)
def Xal.f (k:Nat) (l0:List (S116)):Option ((List (S69))):=if 0≤(l0.length:Int) then (if ((l0.length:Int):Int).toNat≤11728124029610 then (Xal.l0 k l0 (List.replicate ((l0.length:Int):Int).toNat z69) 0) else (none)) else (none)
theorem Xal.calls (k:Nat) (A0:Option Addr) (c0:Nat) (l0:List (S116)) (r:List (S69)) (w:World) (h0:Rw k116 w A0 c0 l0) (H:Xal.f k l0=some r) :
  Calls Tryz.prog 66 #[.slice A0 l0.length c0] w fun e w'=>∃ v0_:Value,e = .returned (v0_)∧Kd.R k69 69 w' w.heap.size (fun _=>True) v0_ r∧Below w.heap.size w w':=by
 have hu116:=Tryz.underlying116
 have hu69:=Tryz.underlying69
 obtain⟨HR0,HC0⟩:=h0
 have HB:=aM (Below.refl w.heap.size w)
 unfold Xal.f at H
 replace H:=ifP H;obtain⟨c2,H⟩:=H
 have c2b0:=eq_true c2
 have c2b1:=decide_eq_true c2
 clear c2
 replace H:=ifP H;obtain⟨c3,H⟩:=H
 have c3b0:=eq_true c3
 have c3b1:=decide_eq_true c3
 clear c3
 obtain⟨y101,hy101⟩:∃ y_:List (S69),y_=(List.replicate ((l0.length:Int):Int).toNat z69):=⟨_,rfl⟩
 replace H:(Xal.l0 k l0 y101 0)=some r:=yH H hy101
 have Ny101:=aM hy101
 clear hy101
 have H':=aM H
 clear H
 go_enter Tryz.func66,Tryz.ntmps66
 go_wp2_with ((with_reducible refine gate_dst (N:=7) rfl ?_);refine Kd.R_make k69 _ 69 rfl (N:=7) rfl 93 _ _ rfl (l0.length:Int) rfl rfl Tryz.underlying93 (.agg #[(.int .i64 0),(.int .i64 0),(.int .i64 0)]) 24 info69 rfl (by decide) (by omega) z69 (ok:=fun _=>True) (okp:=fun _=>True) (k69_mkM _ _ _ z69 ) (fun _ hk=>hk) trivial (odA) (Nat.le_trans (Nat.mul_le_mul_right _ (odA:(l0.length:Int).toNat≤11728124029610)) (by omega)) (Below.refl _ _) (Nat.le_refl _) ?_;intro vz1 wz1 hoz1 hb hg_ hnew_;clear hg_ hnew_;(first | rw[← Ny101.out] at hoz1 | (simp only[Int.reduceToNat] at hoz1;rw[← Ny101.out] at hoz1));have HOz1:=aM (Kd.R_lower hoz1 (below_size (hX HB.out)));replace HB:=aS HB hb;clear hb hoz1)
 go_loopg [4] k (fun kq v4 w'=>∃ (x3_1:List (S69)) (x4_1:Int),v4 = .int .i64 x4_1∧Aside0 (Xal.l0 kq l0 x3_1 x4_1=some r)∧Aside0 (kq≤k)∧Aside0 (Kd.R k69 69 w' w.heap.size (fun _=>True) vz1 x3_1)∧Aside0 (Below w.heap.size w w'))
 case atStart=>exact⟨(y101),(0),rS,H',⟨Nat.le_refl _⟩,⟨(rX HOz1.out)⟩,⟨(hX HB.out)⟩⟩
 case round =>
  clear H'
  try clear c2
  try clear c2b0
  try clear c2b1
  try clear c3
  try clear c3b0
  try clear c3b1
  obtain⟨x3_1,x4_1,rfl,HA,HKy1,HO_y1,HB⟩:=hrel
  cases gk with
  | zero=>exact absurd HA.out (by simp[Xal.l0])
  | succ k1 =>
   have H:=HA.out
   clear HA
   simp only[Xal.l0] at H
   revert H;refine iN ?_ ?_<;>intro c6b0 H
   ·obtain rfl:=sI H
    go_wp2
    go_ret
    exact⟨_,rE,(rX HO_y1.out),(hX HB.out)⟩
   replace H:=ifQ H;obtain⟨c7b0,H⟩:=H
   replace H:=bE H;obtain⟨⟨t105,t106,t107⟩,A8,H⟩:=H
   try dsimp only at H
   replace H:=ifQ H;obtain⟨c9b0,H⟩:=H
   obtain⟨y108,hy108⟩:∃ y_:List (S69),y_=(x3_1.set (x4_1:Int).toNat (⟨t105,t106,t107⟩:S69)):=⟨_,rfl⟩
   replace H:(Xal.l0 k1 l0 y108 (wrap64 (x4_1+1)))=some r:=yH H hy108
   have Ny108:=aM hy108
   clear hy108
   have H':=aM H
   clear H
   obtain⟨adx1,ex1,px1,qx1,hxx1⟩:=at_T116c HR0 HB x4_1
   cases ex1
   go_wp2_with (first | (refine gB 126 20 Tryz.func126 (Xa8.calls _ _ _ _ _ _ _ A8.out) ?_;intro wx1 hb;replace HO_y1:=aQ HO_y1 hb;replace HB:=aS HB hb;clear hb;have px2:0≤(x4_1:Int):=odA;have qx2:(x4_1:Int)<((x3_1.length:Int):Int):=odA;obtain⟨gox1,cox1,eox1,gbx1,glx1,clx1,HGx1⟩:=Kd.R_form HO_y1.out (by omega);(first | cases eox1 | (injection eox1 with ea_ en_ ec_;(first | subst ea_ | (injection ea_ with ea_;subst ea_));subst ec_;clear en_));have GBx1:=aM gbx1;have GGx1:=aM HGx1;clear gbx1 glx1 HGx1;obtain⟨cex1,hclx1,hMx1,hccx1,hfrx1⟩:=Kd.R_elem HO_y1.out z69 (x4_1:Int) px2 qx2;obtain rfl:=k69_openM hMx1;have hxx4:wx1.cell? ⟨gox1,(x4_1:Int).toNat * 3,none⟩=some (.int .i64 ((rd_T69 x3_1 x4_1).f0)):=hccx1 0 _ rfl;have hxx5:wx1.cell? ⟨gox1,(x4_1:Int).toNat * 3+1,none⟩=some (.int .i64 ((rd_T69 x3_1 x4_1).f1)):=hccx1 1 _ rfl;have hxx6:wx1.cell? ⟨gox1,(x4_1:Int).toNat * 3+2,none⟩=some (.int .i64 ((rd_T69 x3_1 x4_1).f2)):=hccx1 2 _ rfl;have hfx1:wx1.frozen? ⟨gox1,(x4_1:Int).toNat * 3,none⟩=false:=hfrx1 0;have hfx2:wx1.frozen? ⟨gox1,(x4_1:Int).toNat * 3+1,none⟩=false:=hfrx1 1;have hfx3:wx1.frozen? ⟨gox1,(x4_1:Int).toNat * 3+2,none⟩=false:=hfrx1 2;clear hclx1 hccx1 hfrx1 hMx1;replace px2:=eq_true px2;replace qx2:=eq_true qx2;have HXx1:=aM (show Kd.R k69 69 wx1 w.heap.size (fun _=>True) (.slice (some ⟨gox1,0,none⟩) x3_1.length cox1) x3_1 from (rX HO_y1.out));obtain⟨cex2,hclx2,hMx2,hccx2,hfrx2⟩:=Kd.R_elem HXx1.out z69 (x4_1:Int) (odA) (by have h_:(x4_1:Int)<((x3_1.length:Int):Int):=odA;first | exact h_ | (have e_:=(Kd.R_reads' HO_y1.out).1;omega) | simpa using h_);obtain rfl:=k69_openM hMx2;have HPx1:=Kd.R_seg HXx1.out (x4_1:Int) (odA) (by have h_:(x4_1:Int)<((x3_1.length:Int):Int):=odA;first | exact h_ | (have e_:=(Kd.R_reads' HO_y1.out).1;omega) | simpa using h_) (seg:=[.int .i64 t105,.int .i64 t106,.int .i64 t107]) (j:=0) hclx2 hccx2 (show 3≤3 from by decide) (x':=(⟨t105,t106,t107⟩:S69)) (k69_mkM _ _ _ (⟨t105,t106,t107⟩:S69) ) (fun _ hk=>hk);have hxx7:=hccx2 0 _ rfl;(try simp only[show (k69).sz=3 from rfl,Nat.mul_one,Nat.add_zero] at hxx7);have hfx4:=hfrx2 0;(try simp only[show (k69).sz=3 from rfl,Nat.mul_one,Nat.add_zero] at hfx4);have hxx8:=hccx2 1 _ rfl;(try simp only[show (k69).sz=3 from rfl,Nat.mul_one,Nat.add_zero] at hxx8);have hfx5:=hfrx2 1;(try simp only[show (k69).sz=3 from rfl,Nat.mul_one,Nat.add_zero] at hfx5);have hxx9:=hccx2 2 _ rfl;(try simp only[show (k69).sz=3 from rfl,Nat.mul_one,Nat.add_zero] at hxx9);have hfx6:=hfrx2 2;(try simp only[show (k69).sz=3 from rfl,Nat.mul_one,Nat.add_zero] at hfx6);clear hclx2 hccx2 hfrx2 hMx2) | ((with_reducible refine gate_store (t:=69) (p:=21) rfl ?_);refine store_event (t:=69) (p:=21) (v:=?vo_wx2) (w1:=(((wx1.setCell ⟨gox1,(x4_1:Int).toNat * 3,none⟩ (.int .i64 t105)).setCell ⟨gox1,(x4_1:Int).toNat * 3+1,none⟩ (.int .i64 t106)).setCell ⟨gox1,(x4_1:Int).toNat * 3+2,none⟩ (.int .i64 t107))) ?hg ?ho ?hn ?hr ?_;(case ho=>rfl);(case hg=>rfl);(case hn=>rfl);(case hr=>first | (go_simp;done) | (go_simp;rfl));intro wx2 hw;have hg:wx1.grownBy wx2 (some gox1):=(by rw[hw];exact HPx1.2);have hp_:Kd.R k69 69 wx2 w.heap.size (fun _=>True) (.slice (some ⟨gox1,0,none⟩) x3_1.length cox1) y108:=(by rw[hw,Ny108.out];exact HPx1.1);clear HPx1;replace HO_y1:=aM (hp_);replace HB:=aM ((by rw[hw];exact below_set (below_set (below_set (HB.out) GBx1.out) GBx1.out) GBx1.out:Below w.heap.size w wx2));clear hg hw hp_))
   go_roundg k1
   case measure=>have:=HKy1.out;omega
   case rel=>exact⟨(y108),(wrap64 (x4_1+1)),rS,H',⟨by have:=HKy1.out;omega⟩,⟨(rX HO_y1.out)⟩,⟨(hX HB.out)⟩⟩
def XaV.f (k:Nat) (l0_0:List Int) (a0_1:Int) (l1_0:List Int) (a1_1:Int):Option (Bool):=(XT.f k l0_0 l1_0).bind fun t103=>(if t103=true then (if a0_1=a1_1 then (some true) else (some false)) else (some false))
theorem XaV.calls (k:Nat) (A0_0:Option Addr) (c0_0:Nat) (l0_0:List Int) (a0_1:Int) (A1_0:Option Addr) (c1_0:Nat) (l1_0:List Int) (a1_1:Int) (r:Bool) (w:World) (h0_0:Rw (Kd.int .i64) w A0_0 c0_0 l0_0) (h1_0:Rw (Kd.int .i64) w A1_0 c1_0 l1_0) (H:XaV.f k l0_0 a0_1 l1_0 a1_1=some r) :
  Calls Tryz.prog 23 #[.agg #[.slice A0_0 l0_0.length c0_0,.int .i64 a0_1],.agg #[.slice A1_0 l1_0.length c1_0,.int .i64 a1_1]] w fun e w'=>e = .returned (.bool r)∧Below w.heap.size w w':=by
 have hu41:=Tryz.underlying41
 obtain⟨HR0_0,HC0_0⟩:=h0_0
 obtain⟨HR1_0,HC1_0⟩:=h1_0
 have HB:=aM (Below.refl w.heap.size w)
 unfold XaV.f at H
 replace H:=bE H;obtain⟨t103,A3,H⟩:=H
 go_enter Tryz.func23,Tryz.ntmps23
 go_wp2_with (first | (refine boxE 2 #[.slice A0_0 l0_0.length c0_0,.int .i64 a0_1] 41 ?_;intro gbz1 hg wz1 hbox hb;have BKz1:=aM (hbox);have GWz1:=aG hg HB;replace HB:=aS HB hb;clear hb hbox hg) | (refine boxE 3 #[.slice A1_0 l1_0.length c1_0,.int .i64 a1_1] 41 ?_;intro gbz2 hg wz2 hbox hb;have BKz2:=aM (hbox);have GWz2:=aG hg HB;have NBz1:=aL hg BKz1;have NBz2:=aR hg BKz1;replace BKz1:=aB BKz1 hb;replace HB:=aS HB hb;clear hb hbox hg;have hnbz1:=nB NBz1 NBz2;have hczz1:=cZ2 BKz1.out;have hczz3:=cZ2 BKz2.out;refine Stop.out ?_))
 refine⟨?_⟩
 cases t103
 case false =>
  rw[if_neg nft] at H
  obtain rfl:=sI H
  go_wp2_with (refine gD 53 9 Tryz.func53 (XT.calls _ _ _ _ _ _ _ _ _ (rW HR0_0 HB HC0_0) (rW HR1_0 HB HC1_0) A3.out) ?_;intro nd)
  go_ret
  exact⟨rE,(hX HB.out)⟩
 rw[if_pos rfl] at H
 go_wp2_with (refine gD 53 9 Tryz.func53 (XT.calls _ _ _ _ _ _ _ _ _ (rW HR0_0 HB HC0_0) (rW HR1_0 HB HC1_0) A3.out) ?_;intro nd;refine Stop.out ?_)
 refine⟨?_⟩
 revert H;refine eN ?_ ?_<;>intro c5b0 c5b1 H
 ·obtain rfl:=sI H
  exact fS
 exact fR
def Xw.l0:Nat→List (S140)→List (S140)→Int→Option (Bool)
 | 0,_,_,_=>none
 | k+1,x0,x1,x5=>if x5<(x0.length:Int) then (if 0≤x5 then (if x5<(x1.length:Int) then ((Xbb.f ((rd_T140 x0 x5).f0) ((rd_T140 x0 x5).f1) ((rd_T140 x0 x5).f2) ((rd_T140 x1 x5).f0) ((rd_T140 x1 x5).f1) ((rd_T140 x1 x5).f2)).bind fun t103=>(if t103=true then (Xw.l0 k x0 x1 (wrap64 (x5+1))) else (some false))) else (none)) else (none)) else (some true)
def Xw.f (k:Nat) (l0:List (S140)) (l1:List (S140)):Option (Bool):=if (l0.length:Int)=(l1.length:Int) then (Xw.l0 k l0 l1 0) else (some false)
def Xw.T6:Bool × List (List Nat × List Nat):=(true,[([],[]),([],[]),([0,1],[0,1]),([2],[2]),([],[]),([],[]),([4,5],[4,5]),([6],[6]),([3,7],[3,7]),([8],[8])])
def Xw.B6:List Nat:=[0,0,3,7,0,0,48,112,255,511]
theorem Xw.tab6:rtab .any (opsOf Tryz.f109 6)=Xw.T6:=by kernel_rfl
theorem Xw.bits6:waitsOk Xw.T6.2 Xw.B6=true:=by kernel_rfl
theorem Xw.calls (k:Nat) (A0:Option Addr) (c0:Nat) (l0:List (S140)) (A1:Option Addr) (c1:Nat) (l1:List (S140)) (r:Bool) (w:World) (h0:Rw k140 w A0 c0 l0) (h1:Rw k140 w A1 c1 l1) (H:Xw.f k l0 l1=some r) :
  Calls Tryz.prog 109 #[.slice A0 l0.length c0,.slice A1 l1.length c1] w fun e w'=>e = .returned (.bool r)∧Below w.heap.size w w':=by
 have hu140:=Tryz.underlying140
 obtain⟨HR0,HC0⟩:=h0
 obtain⟨HR1,HC1⟩:=h1
 have HB:=aM (Below.refl w.heap.size w)
 unfold Xw.f at H
 go_enter Tryz.func109,Tryz.ntmps109
 by_cases c3:(l0.length:Int)=(l1.length:Int)
 case neg =>
  rw[if_neg c3] at H
  obtain⟨c3b0,c3b1⟩:=eqF c3
  have c3b2:(l0.length == l1.length)=false:=by first | simpa using c3 | (simp at c3 ⊢;omega)
  exact fR
 rw[if_pos c3] at H
 obtain⟨c3b0,c3b1⟩:=eqT c3
 have c3b2:(l0.length == l1.length)=true:=by first | simpa using c3 | (simp at c3 ⊢;omega)
 clear c3
 have H':=aM H
 clear H
 go_wp2
 go_loopg [5] k (fun kq v5 w'=>∃ (x5_1:Int),v5 = .int .i64 x5_1∧Aside0 (Xw.l0 kq l0 l1 x5_1=some r)∧Aside0 (kq≤k)∧Aside0 (Below w.heap.size w w'))
 case atStart=>exact⟨(0),rS,H',⟨Nat.le_refl _⟩,⟨(hX HB.out)⟩⟩
 case round =>
  clear H'
  try clear c3
  try clear c3b0
  try clear c3b1
  try clear c3b2
  obtain⟨x5_1,rfl,HA,HKy1,HB⟩:=hrel
  cases gk with
  | zero=>exact absurd HA.out (by simp[Xw.l0])
  | succ k1 =>
   have H:=HA.out
   clear HA
   simp only[Xw.l0] at H
   revert H;refine iN ?_ ?_<;>intro c4b0 H
   ·obtain rfl:=sI H
    exact fS
   replace H:=ifQ H;obtain⟨c5b0,H⟩:=H
   replace H:=ifQ H;obtain⟨c6b0,H⟩:=H
   replace H:=bE H;obtain⟨t103,A7,H⟩:=H
   try go_wp2
   obtain⟨adx1,ex1,px1,qx1,hxx1⟩:=at_T140c HR0 HB x5_1
   cases ex1
   obtain⟨adx2,ex2,px2,qx2,hxx4⟩:=at_T140c HR1 HB x5_1
   cases ex2
   refine sR0 10 Xw.tab6 Xw.bits6 (fun HT_ HW_ hHeld => ?_)
   refine zA 0 ?_
   refine zA 1 ?_
   refine zA 2 ?_
   refine zA 4 ?_
   refine zA 5 ?_
   refine zA 6 ?_
   refine tA 3 ?_
   refine tA 7 ?_
   cases t103
   case false =>
    rw[if_neg nft] at H
    obtain rfl:=sI H
    refine eB 8 Tryz.func186 (Xbb.calls _ _ _ _ _ _ _ _ A7.out) (fun wx2 hb hHeld => ?_)
    replace HB:=aS HB hb
    (try clear hb)
    refine zA 9 ?_
    refine dA ?_
    try go_wp2
    go_ret
    exact⟨rE,(hX HB.out)⟩
   rw[if_pos rfl] at H
   have H':=aM H
   clear H
   refine eB 8 Tryz.func186 (Xbb.calls _ _ _ _ _ _ _ _ A7.out) (fun wx2 hb hHeld => ?_)
   replace HB:=aS HB hb
   (try clear hb)
   refine zA 9 ?_
   refine dA ?_
   try go_wp2
   go_roundg k1
   case measure=>have:=HKy1.out;omega
   case rel=>exact⟨(wrap64 (x5_1+1)),rS,H',⟨by have:=HKy1.out;omega⟩,⟨(hX HB.out)⟩⟩
def XaJ.f (k:Nat) (a0_0:Int) (l0_1:List Int) (a1_0:Int) (l1_1:List Int):Option (Bool):=if a0_0=a1_0 then ((XT.f k l0_1 l1_1).bind fun t103=>(if t103=true then (some true) else (some false))) else (some false)
theorem XaJ.calls (k:Nat) (a0_0:Int) (A0_1:Option Addr) (c0_1:Nat) (l0_1:List Int) (a1_0:Int) (A1_1:Option Addr) (c1_1:Nat) (l1_1:List Int) (r:Bool) (w:World) (h0_1:Rw (Kd.int .i64) w A0_1 c0_1 l0_1) (h1_1:Rw (Kd.int .i64) w A1_1 c1_1 l1_1) (H:XaJ.f k a0_0 l0_1 a1_0 l1_1=some r) :
  Calls Tryz.prog 190 #[.agg #[.int .i64 a0_0,.slice A0_1 l0_1.length c0_1],.agg #[.int .i64 a1_0,.slice A1_1 l1_1.length c1_1]] w fun e w'=>e = .returned (.bool r)∧Below w.heap.size w w':=by
 have hu71:=Tryz.underlying71
 obtain⟨HR0_1,HC0_1⟩:=h0_1
 obtain⟨HR1_1,HC1_1⟩:=h1_1
 have HB:=aM (Below.refl w.heap.size w)
 unfold XaJ.f at H
 go_enter Tryz.func190,Tryz.ntmps190
 go_wp2_with (first | (refine boxE 2 #[.int .i64 a0_0,.slice A0_1 l0_1.length c0_1] 71 ?_;intro gbz1 hg wz1 hbox hb;have BKz1:=aM (hbox);have GWz1:=aG hg HB;replace HB:=aS HB hb;clear hb hbox hg) | (refine boxE 3 #[.int .i64 a1_0,.slice A1_1 l1_1.length c1_1] 71 ?_;intro gbz2 hg wz2 hbox hb;have BKz2:=aM (hbox);have GWz2:=aG hg HB;have NBz1:=aL hg BKz1;have NBz2:=aR hg BKz1;replace BKz1:=aB BKz1 hb;replace HB:=aS HB hb;clear hb hbox hg;have hnbz1:=nB NBz1 NBz2;have hczz1:=cZ2 BKz1.out;have hczz3:=cZ2 BKz2.out;refine Stop.out ?_))
 refine⟨?_⟩
 revert H;refine eN ?_ ?_<;>intro c3b0 c3b1 H
 ·obtain rfl:=sI H
  exact fS
 replace H:=bE H;obtain⟨t103,A4,H⟩:=H
 cases t103
 case true =>
  rw[if_pos rfl] at H
  obtain rfl:=sI H
  go_wp2_with (refine gD 53 14 Tryz.func53 (XT.calls _ _ _ _ _ _ _ _ _ (rW HR0_1 HB HC0_1) (rW HR1_1 HB HC1_1) A4.out) ?_;intro nd)
  go_ret
  exact⟨rE,(hX HB.out)⟩
 rw[if_neg nft] at H
 obtain rfl:=sI H
 go_wp2_with (refine gD 53 14 Tryz.func53 (XT.calls _ _ _ _ _ _ _ _ _ (rW HR0_1 HB HC0_1) (rW HR1_1 HB HC1_1) A4.out) ?_;intro nd)
 go_ret
 exact⟨rE,(hX HB.out)⟩
def Xs.l0:Nat→List (S165)→List (S165)→Int→Option (Bool)
 | 0,_,_,_=>none
 | k+1,x0,x1,x5=>if x5<(x0.length:Int) then (if 0≤x5 then (if x5<(x1.length:Int) then ((Xa0.f ((rd_T165 x0 x5).f0) ((rd_T165 x0 x5).f1) ((rd_T165 x0 x5).f2) ((rd_T165 x1 x5).f0) ((rd_T165 x1 x5).f1) ((rd_T165 x1 x5).f2)).bind fun t103=>(if t103=true then (Xs.l0 k x0 x1 (wrap64 (x5+1))) else (some false))) else (none)) else (none)) else (some true)
def Xs.f (k:Nat) (l0:List (S165)) (l1:List (S165)):Option (Bool):=if (l0.length:Int)=(l1.length:Int) then (Xs.l0 k l0 l1 0) else (some false)
def Xs.T6:Bool × List (List Nat × List Nat):=(true,[([],[]),([],[]),([0,1],[0,1]),([2],[2]),([],[]),([],[]),([4,5],[4,5]),([6],[6]),([3,7],[3,7]),([8],[8])])
def Xs.B6:List Nat:=[0,0,3,7,0,0,48,112,255,511]
theorem Xs.tab6:rtab .any (opsOf Tryz.f213 6)=Xs.T6:=by kernel_rfl
theorem Xs.bits6:waitsOk Xs.T6.2 Xs.B6=true:=by kernel_rfl
theorem Xs.calls (k:Nat) (A0:Option Addr) (c0:Nat) (l0:List (S165)) (A1:Option Addr) (c1:Nat) (l1:List (S165)) (r:Bool) (w:World) (h0:Rw k165 w A0 c0 l0) (h1:Rw k165 w A1 c1 l1) (H:Xs.f k l0 l1=some r) :
  Calls Tryz.prog 213 #[.slice A0 l0.length c0,.slice A1 l1.length c1] w fun e w'=>e = .returned (.bool r)∧Below w.heap.size w w':=by
 have hu165:=Tryz.underlying165
 obtain⟨HR0,HC0⟩:=h0
 obtain⟨HR1,HC1⟩:=h1
 have HB:=aM (Below.refl w.heap.size w)
 unfold Xs.f at H
 go_enter Tryz.func213,Tryz.ntmps213
 by_cases c3:(l0.length:Int)=(l1.length:Int)
 case neg =>
  rw[if_neg c3] at H
  obtain⟨c3b0,c3b1⟩:=eqF c3
  have c3b2:(l0.length == l1.length)=false:=by first | simpa using c3 | (simp at c3 ⊢;omega)
  exact fR
 rw[if_pos c3] at H
 obtain⟨c3b0,c3b1⟩:=eqT c3
 have c3b2:(l0.length == l1.length)=true:=by first | simpa using c3 | (simp at c3 ⊢;omega)
 clear c3
 have H':=aM H
 clear H
 go_wp2
 go_loopg [5] k (fun kq v5 w'=>∃ (x5_1:Int),v5 = .int .i64 x5_1∧Aside0 (Xs.l0 kq l0 l1 x5_1=some r)∧Aside0 (kq≤k)∧Aside0 (Below w.heap.size w w'))
 case atStart=>exact⟨(0),rS,H',⟨Nat.le_refl _⟩,⟨(hX HB.out)⟩⟩
 case round =>
  clear H'
  try clear c3
  try clear c3b0
  try clear c3b1
  try clear c3b2
  obtain⟨x5_1,rfl,HA,HKy1,HB⟩:=hrel
  cases gk with
  | zero=>exact absurd HA.out (by simp[Xs.l0])
  | succ k1 =>
   have H:=HA.out
   clear HA
   simp only[Xs.l0] at H
   revert H;refine iN ?_ ?_<;>intro c4b0 H
   ·obtain rfl:=sI H
    exact fS
   replace H:=ifQ H;obtain⟨c5b0,H⟩:=H
   replace H:=ifQ H;obtain⟨c6b0,H⟩:=H
   replace H:=bE H;obtain⟨t103,A7,H⟩:=H
   try go_wp2
   obtain⟨adx1,ex1,px1,qx1,hxx1⟩:=at_T165c HR0 HB x5_1
   cases ex1
   obtain⟨adx2,ex2,px2,qx2,hxx4⟩:=at_T165c HR1 HB x5_1
   cases ex2
   refine sR0 10 Xs.tab6 Xs.bits6 (fun HT_ HW_ hHeld => ?_)
   refine zA 0 ?_
   refine zA 1 ?_
   refine zA 2 ?_
   refine zA 4 ?_
   refine zA 5 ?_
   refine zA 6 ?_
   refine tA 3 ?_
   refine tA 7 ?_
   cases t103
   case false =>
    rw[if_neg nft] at H
    obtain rfl:=sI H
    refine eB 8 Tryz.func220 (Xa0.calls _ _ _ _ _ _ _ _ A7.out) (fun wx2 hb hHeld => ?_)
    replace HB:=aS HB hb
    (try clear hb)
    refine zA 9 ?_
    refine dA ?_
    try go_wp2
    go_ret
    exact⟨rE,(hX HB.out)⟩
   rw[if_pos rfl] at H
   have H':=aM H
   clear H
   refine eB 8 Tryz.func220 (Xa0.calls _ _ _ _ _ _ _ _ A7.out) (fun wx2 hb hHeld => ?_)
   replace HB:=aS HB hb
   (try clear hb)
   refine zA 9 ?_
   refine dA ?_
   try go_wp2
   go_roundg k1
   case measure=>have:=HKy1.out;omega
   case rel=>exact⟨(wrap64 (x5_1+1)),rS,H',⟨by have:=HKy1.out;omega⟩,⟨(hX HB.out)⟩⟩
def Xx.l0:Nat→List (S172)→List (S172)→Int→Option (Bool)
 | 0,_,_,_=>none
 | k+1,x0,x1,x5=>if x5<(x0.length:Int) then (if 0≤x5 then (if x5<(x1.length:Int) then ((Xbc.f ((rd_T172 x0 x5).f0) ((rd_T172 x0 x5).f1) ((rd_T172 x1 x5).f0) ((rd_T172 x1 x5).f1)).bind fun t103=>(if t103=true then (Xx.l0 k x0 x1 (wrap64 (x5+1))) else (some false))) else (none)) else (none)) else (some true)
def Xx.f (k:Nat) (l0:List (S172)) (l1:List (S172)):Option (Bool):=if (l0.length:Int)=(l1.length:Int) then (Xx.l0 k l0 l1 0) else (some false)
def Xx.T6:Bool × List (List Nat × List Nat):=(true,[([],[]),([],[]),([0,1],[0,1]),([2],[2]),([],[]),([],[]),([4,5],[4,5]),([6],[6]),([3,7],[3,7]),([8],[8])])
def Xx.B6:List Nat:=[0,0,3,7,0,0,48,112,255,511]
theorem Xx.tab6:rtab .any (opsOf Tryz.f188 6)=Xx.T6:=by kernel_rfl
theorem Xx.bits6:waitsOk Xx.T6.2 Xx.B6=true:=by kernel_rfl
theorem Xx.calls (k:Nat) (A0:Option Addr) (c0:Nat) (l0:List (S172)) (A1:Option Addr) (c1:Nat) (l1:List (S172)) (r:Bool) (w:World) (h0:Rw k172 w A0 c0 l0) (h1:Rw k172 w A1 c1 l1) (H:Xx.f k l0 l1=some r) :
  Calls Tryz.prog 188 #[.slice A0 l0.length c0,.slice A1 l1.length c1] w fun e w'=>e = .returned (.bool r)∧Below w.heap.size w w':=by
 have hu172:=Tryz.underlying172
 obtain⟨HR0,HC0⟩:=h0
 obtain⟨HR1,HC1⟩:=h1
 have HB:=aM (Below.refl w.heap.size w)
 unfold Xx.f at H
 go_enter Tryz.func188,Tryz.ntmps188
 by_cases c3:(l0.length:Int)=(l1.length:Int)
 case neg =>
  rw[if_neg c3] at H
  obtain⟨c3b0,c3b1⟩:=eqF c3
  have c3b2:(l0.length == l1.length)=false:=by first | simpa using c3 | (simp at c3 ⊢;omega)
  exact fR
 rw[if_pos c3] at H
 obtain⟨c3b0,c3b1⟩:=eqT c3
 have c3b2:(l0.length == l1.length)=true:=by first | simpa using c3 | (simp at c3 ⊢;omega)
 clear c3
 have H':=aM H
 clear H
 go_wp2
 go_loopg [5] k (fun kq v5 w'=>∃ (x5_1:Int),v5 = .int .i64 x5_1∧Aside0 (Xx.l0 kq l0 l1 x5_1=some r)∧Aside0 (kq≤k)∧Aside0 (Below w.heap.size w w'))
 case atStart=>exact⟨(0),rS,H',⟨Nat.le_refl _⟩,⟨(hX HB.out)⟩⟩
 case round =>
  clear H'
  try clear c3
  try clear c3b0
  try clear c3b1
  try clear c3b2
  obtain⟨x5_1,rfl,HA,HKy1,HB⟩:=hrel
  cases gk with
  | zero=>exact absurd HA.out (by simp[Xx.l0])
  | succ k1 =>
   have H:=HA.out
   clear HA
   simp only[Xx.l0] at H
   revert H;refine iN ?_ ?_<;>intro c4b0 H
   ·obtain rfl:=sI H
    exact fS
   replace H:=ifQ H;obtain⟨c5b0,H⟩:=H
   replace H:=ifQ H;obtain⟨c6b0,H⟩:=H
   replace H:=bE H;obtain⟨t103,A7,H⟩:=H
   try go_wp2
   obtain⟨adx1,ex1,px1,qx1,hxx1⟩:=at_T172c HR0 HB x5_1
   cases ex1
   obtain⟨adx2,ex2,px2,qx2,hxx3⟩:=at_T172c HR1 HB x5_1
   cases ex2
   refine sR0 10 Xx.tab6 Xx.bits6 (fun HT_ HW_ hHeld => ?_)
   refine zA 0 ?_
   refine zA 1 ?_
   refine zA 2 ?_
   refine zA 4 ?_
   refine zA 5 ?_
   refine zA 6 ?_
   refine tA 3 ?_
   refine tA 7 ?_
   cases t103
   case false =>
    rw[if_neg nft] at H
    obtain rfl:=sI H
    refine eB 8 Tryz.func214 (Xbc.calls _ _ _ _ _ _ A7.out) (fun wx2 hb hHeld => ?_)
    replace HB:=aS HB hb
    (try clear hb)
    refine zA 9 ?_
    refine dA ?_
    try go_wp2
    go_ret
    exact⟨rE,(hX HB.out)⟩
   rw[if_pos rfl] at H
   have H':=aM H
   clear H
   refine eB 8 Tryz.func214 (Xbc.calls _ _ _ _ _ _ A7.out) (fun wx2 hb hHeld => ?_)
   replace HB:=aS HB hb
   (try clear hb)
   refine zA 9 ?_
   refine dA ?_
   try go_wp2
   go_roundg k1
   case measure=>have:=HKy1.out;omega
   case rel=>exact⟨(wrap64 (x5_1+1)),rS,H',⟨by have:=HKy1.out;omega⟩,⟨(hX HB.out)⟩⟩
def Xy.l0:Nat→List (S174)→List (S174)→Int→Option (Bool)
 | 0,_,_,_=>none
 | k+1,x0,x1,x5=>if x5<(x0.length:Int) then (if 0≤x5 then (if x5<(x1.length:Int) then ((Xbd.f ((rd_T174 x0 x5).f0) ((rd_T174 x0 x5).f1) ((rd_T174 x0 x5).f2) ((rd_T174 x0 x5).f3) ((rd_T174 x1 x5).f0) ((rd_T174 x1 x5).f1) ((rd_T174 x1 x5).f2) ((rd_T174 x1 x5).f3)).bind fun t103=>(if t103=true then (Xy.l0 k x0 x1 (wrap64 (x5+1))) else (some false))) else (none)) else (none)) else (some true)
def Xy.f (k:Nat) (l0:List (S174)) (l1:List (S174)):Option (Bool):=if (l0.length:Int)=(l1.length:Int) then (Xy.l0 k l0 l1 0) else (some false)
def Xy.T6:Bool × List (List Nat × List Nat):=(true,[([],[]),([],[]),([0,1],[0,1]),([2],[2]),([],[]),([],[]),([4,5],[4,5]),([6],[6]),([3,7],[3,7]),([8],[8])])
def Xy.B6:List Nat:=[0,0,3,7,0,0,48,112,255,511]
theorem Xy.tab6:rtab .any (opsOf Tryz.f189 6)=Xy.T6:=by kernel_rfl
theorem Xy.bits6:waitsOk Xy.T6.2 Xy.B6=true:=by kernel_rfl
theorem Xy.calls (k:Nat) (A0:Option Addr) (c0:Nat) (l0:List (S174)) (A1:Option Addr) (c1:Nat) (l1:List (S174)) (r:Bool) (w:World) (h0:Rw k174 w A0 c0 l0) (h1:Rw k174 w A1 c1 l1) (H:Xy.f k l0 l1=some r) :
  Calls Tryz.prog 189 #[.slice A0 l0.length c0,.slice A1 l1.length c1] w fun e w'=>e = .returned (.bool r)∧Below w.heap.size w w':=by
 have hu174:=Tryz.underlying174
 obtain⟨HR0,HC0⟩:=h0
 obtain⟨HR1,HC1⟩:=h1
 have HB:=aM (Below.refl w.heap.size w)
 unfold Xy.f at H
 go_enter Tryz.func189,Tryz.ntmps189
 by_cases c3:(l0.length:Int)=(l1.length:Int)
 case neg =>
  rw[if_neg c3] at H
  obtain⟨c3b0,c3b1⟩:=eqF c3
  have c3b2:(l0.length == l1.length)=false:=by first | simpa using c3 | (simp at c3 ⊢;omega)
  exact fR
 rw[if_pos c3] at H
 obtain⟨c3b0,c3b1⟩:=eqT c3
 have c3b2:(l0.length == l1.length)=true:=by first | simpa using c3 | (simp at c3 ⊢;omega)
 clear c3
 have H':=aM H
 clear H
 go_wp2
 go_loopg [5] k (fun kq v5 w'=>∃ (x5_1:Int),v5 = .int .i64 x5_1∧Aside0 (Xy.l0 kq l0 l1 x5_1=some r)∧Aside0 (kq≤k)∧Aside0 (Below w.heap.size w w'))
 case atStart=>exact⟨(0),rS,H',⟨Nat.le_refl _⟩,⟨(hX HB.out)⟩⟩
 case round =>
  clear H'
  try clear c3
  try clear c3b0
  try clear c3b1
  try clear c3b2
  obtain⟨x5_1,rfl,HA,HKy1,HB⟩:=hrel
  cases gk with
  | zero=>exact absurd HA.out (by simp[Xy.l0])
  | succ k1 =>
   have H:=HA.out
   clear HA
   simp only[Xy.l0] at H
   revert H;refine iN ?_ ?_<;>intro c4b0 H
   ·obtain rfl:=sI H
    exact fS
   replace H:=ifQ H;obtain⟨c5b0,H⟩:=H
   replace H:=ifQ H;obtain⟨c6b0,H⟩:=H
   replace H:=bE H;obtain⟨t103,A7,H⟩:=H
   try go_wp2
   obtain⟨adx1,ex1,px1,qx1,hxx1⟩:=at_T174c HR0 HB x5_1
   cases ex1
   obtain⟨adx2,ex2,px2,qx2,hxx5⟩:=at_T174c HR1 HB x5_1
   cases ex2
   refine sR0 10 Xy.tab6 Xy.bits6 (fun HT_ HW_ hHeld => ?_)
   refine zA 0 ?_
   refine zA 1 ?_
   refine zA 2 ?_
   refine zA 4 ?_
   refine zA 5 ?_
   refine zA 6 ?_
   refine tA 3 ?_
   refine tA 7 ?_
   cases t103
   case false =>
    rw[if_neg nft] at H
    obtain rfl:=sI H
    refine eB 8 Tryz.func215 (Xbd.calls _ _ _ _ _ _ _ _ _ _ A7.out) (fun wx2 hb hHeld => ?_)
    replace HB:=aS HB hb
    (try clear hb)
    refine zA 9 ?_
    refine dA ?_
    try go_wp2
    go_ret
    exact⟨rE,(hX HB.out)⟩
   rw[if_pos rfl] at H
   have H':=aM H
   clear H
   refine eB 8 Tryz.func215 (Xbd.calls _ _ _ _ _ _ _ _ _ _ A7.out) (fun wx2 hb hHeld => ?_)
   replace HB:=aS HB hb
   (try clear hb)
   refine zA 9 ?_
   refine dA ?_
   try go_wp2
   go_roundg k1
   case measure=>have:=HKy1.out;omega
   case rel=>exact⟨(wrap64 (x5_1+1)),rS,H',⟨by have:=HKy1.out;omega⟩,⟨(hX HB.out)⟩⟩
def XP.l0:Nat→List (S69)→List (S69)→Int→Option (Bool)
 | 0,_,_,_=>none
 | k+1,x0,x1,x5=>if x5<(x0.length:Int) then (if 0≤x5 then (if x5<(x1.length:Int) then ((XaP.f ((rd_T69 x0 x5).f0) ((rd_T69 x0 x5).f1) ((rd_T69 x0 x5).f2) ((rd_T69 x1 x5).f0) ((rd_T69 x1 x5).f1) ((rd_T69 x1 x5).f2)).bind fun t103=>(if t103=true then (XP.l0 k x0 x1 (wrap64 (x5+1))) else (some false))) else (none)) else (none)) else (some true)
def XP.f (k:Nat) (l0:List (S69)) (l1:List (S69)):Option (Bool):=if (l0.length:Int)=(l1.length:Int) then (XP.l0 k l0 l1 0) else (some false)
def XP.T6:Bool × List (List Nat × List Nat):=(true,[([],[]),([],[]),([0,1],[0,1]),([2],[2]),([],[]),([],[]),([4,5],[4,5]),([6],[6]),([3,7],[3,7]),([8],[8])])
def XP.B6:List Nat:=[0,0,3,7,0,0,48,112,255,511]
theorem XP.tab6:rtab .any (opsOf Tryz.f70 6)=XP.T6:=by kernel_rfl
theorem XP.bits6:waitsOk XP.T6.2 XP.B6=true:=by kernel_rfl
theorem XP.calls (k:Nat) (A0:Option Addr) (c0:Nat) (l0:List (S69)) (A1:Option Addr) (c1:Nat) (l1:List (S69)) (r:Bool) (w:World) (h0:Rw k69 w A0 c0 l0) (h1:Rw k69 w A1 c1 l1) (H:XP.f k l0 l1=some r) :
  Calls Tryz.prog 70 #[.slice A0 l0.length c0,.slice A1 l1.length c1] w fun e w'=>e = .returned (.bool r)∧Below w.heap.size w w':=by
 have hu69:=Tryz.underlying69
 obtain⟨HR0,HC0⟩:=h0
 obtain⟨HR1,HC1⟩:=h1
 have HB:=aM (Below.refl w.heap.size w)
 unfold XP.f at H
 go_enter Tryz.func70,Tryz.ntmps70
 by_cases c3:(l0.length:Int)=(l1.length:Int)
 case neg =>
  rw[if_neg c3] at H
  obtain⟨c3b0,c3b1⟩:=eqF c3
  have c3b2:(l0.length == l1.length)=false:=by first | simpa using c3 | (simp at c3 ⊢;omega)
  exact fR
 rw[if_pos c3] at H
 obtain⟨c3b0,c3b1⟩:=eqT c3
 have c3b2:(l0.length == l1.length)=true:=by first | simpa using c3 | (simp at c3 ⊢;omega)
 clear c3
 have H':=aM H
 clear H
 go_wp2
 go_loopg [5] k (fun kq v5 w'=>∃ (x5_1:Int),v5 = .int .i64 x5_1∧Aside0 (XP.l0 kq l0 l1 x5_1=some r)∧Aside0 (kq≤k)∧Aside0 (Below w.heap.size w w'))
 case atStart=>exact⟨(0),rS,H',⟨Nat.le_refl _⟩,⟨(hX HB.out)⟩⟩
 case round =>
  clear H'
  try clear c3
  try clear c3b0
  try clear c3b1
  try clear c3b2
  obtain⟨x5_1,rfl,HA,HKy1,HB⟩:=hrel
  cases gk with
  | zero=>exact absurd HA.out (by simp[XP.l0])
  | succ k1 =>
   have H:=HA.out
   clear HA
   simp only[XP.l0] at H
   revert H;refine iN ?_ ?_<;>intro c4b0 H
   ·obtain rfl:=sI H
    exact fS
   replace H:=ifQ H;obtain⟨c5b0,H⟩:=H
   replace H:=ifQ H;obtain⟨c6b0,H⟩:=H
   replace H:=bE H;obtain⟨t103,A7,H⟩:=H
   try go_wp2
   obtain⟨adx1,ex1,px1,qx1,hxx1⟩:=at_T69c HR0 HB x5_1
   cases ex1
   obtain⟨adx2,ex2,px2,qx2,hxx4⟩:=at_T69c HR1 HB x5_1
   cases ex2
   refine sR0 10 XP.tab6 XP.bits6 (fun HT_ HW_ hHeld => ?_)
   refine zA 0 ?_
   refine zA 1 ?_
   refine zA 2 ?_
   refine zA 4 ?_
   refine zA 5 ?_
   refine zA 6 ?_
   refine tA 3 ?_
   refine tA 7 ?_
   cases t103
   case false =>
    rw[if_neg nft] at H
    obtain rfl:=sI H
    refine eB 8 Tryz.func128 (XaP.calls _ _ _ _ _ _ _ _ A7.out) (fun wx2 hb hHeld => ?_)
    replace HB:=aS HB hb
    (try clear hb)
    refine zA 9 ?_
    refine dA ?_
    try go_wp2
    go_ret
    exact⟨rE,(hX HB.out)⟩
   rw[if_pos rfl] at H
   have H':=aM H
   clear H
   refine eB 8 Tryz.func128 (XaP.calls _ _ _ _ _ _ _ _ A7.out) (fun wx2 hb hHeld => ?_)
   replace HB:=aS HB hb
   (try clear hb)
   refine zA 9 ?_
   refine dA ?_
   try go_wp2
   go_roundg k1
   case measure=>have:=HKy1.out;omega
   case rel=>exact⟨(wrap64 (x5_1+1)),rS,H',⟨by have:=HKy1.out;omega⟩,⟨(hX HB.out)⟩⟩
end Go.Proofs.YtmljebgideecjaaGreat.P2
