/- A part of the proof of the law FnExactMachineNew: texts of this seat, merged (words, printed functions of the program, plain lemmas). Conditions: none of its own. -/
import Derived.Test.YtmljebgideecjaaGreatP2kFnExactMachineNew26
set_option linter.unusedSimpArgs false
set_option linter.unusedVariables false
set_option maxHeartbeats 8000000
set_option maxRecDepth 100000
namespace Go.Proofs.YtmljebgideecjaaGreat.P2
open Go.Proofs.YtmljebgideecjaaGreatZ Go.RowKit Go.Proofs.YtmljebgideecjaaGreatW.PrintWords Go.Proofs.YtmljebgideecjaaGreatW.PrintLast Go.Proofs.YtmljebgideecjaaGreatW.PrintMore
attribute [local go_sem] max2_int min2_int max_two min_two max_three min_three max_four min_four   -- for this text's walks alone
mutual
def Xi.l0:Nat→List Int→Int→List Int→Int→Option (List Int)
 | 0,_,_,_,_=>none
 | k+1,x3,x4,x102000,x102001=>if x4<4 then (if 0≤x4 then (if x4<(x102000.length:Int) then ((Xa9.f x4).bind fun t110=>(if 0≤t110 then (if t110<(x3.length:Int) then ((some (x3.set (t110:Int).toNat (rd x102000 x4):List Int)).bind fun y111=>(if (rd x102000 x4)=0 then (Xi.l0 k y111 (wrap64 (x4+1)) x102000 x102001) else ((XaW.f (rd x102000 x4)).bind fun t112=>(if 0≤t112 then (if t112<(x3.length:Int) then ((some (y111.set (t112:Int).toNat (wrap64 (x4+1)):List Int)).bind fun y113=>(if x4<(wrap64 (x102001 - 1)) then ((Xba.f (rd x102000 x4)).bind fun t114=>(if 0≤t114 then (if t114<(x3.length:Int) then (Xi.l0 k (y113.set (t114:Int).toNat (wrap64 (x4+1))) (wrap64 (x4+1)) x102000 x102001) else (none)) else (none))) else (Xi.l0 k y113 (wrap64 (x4+1)) x102000 x102001))) else (none)) else (none))))) else (none)) else (none))) else (none)) else (none)) else (Xi.l1 k x3 0 x102000 x102001)
def Xi.l1:Nat→List Int→Int→List Int→Int→Option (List Int)
 | 0,_,_,_,_=>none
 | k+1,x3,x6,x102000,x102001=>if x6<3 then ((XaV.f x6).bind fun t116=>((Xaa.f k x102000 x102001 x6).bind fun t117=>(if 0≤t116 then (if t116<(x3.length:Int) then (Xi.l1 k (x3.set (t116:Int).toNat t117) (wrap64 (x6+1)) x102000 x102001) else (none)) else (none)))) else ((XaC.f).bind fun t119=>(if 0≤t119 then (if t119<(x3.length:Int) then (some (x3.set (t119:Int).toNat x102001)) else (none)) else (none)))
end
def Xi.f (k:Nat) (l0_0:List Int) (a0_1:Int):Option (List Int):=(Xn.f k l0_0 a0_1).bind fun t102=>(if t102=true then (if 20≤35184372088832 then (Xi.l0 k (List.replicate 20 0) 0 l0_0 a0_1) else (none)) else (some (([]:List Int))))
def Xi.T16:Bool × List (List Nat × List Nat):=(true,[([],[]),([],[]),([1],[1]),([],[]),([],[]),([3,4,2],[3,4]),([0,2,0,1,2,3,4,5],[0,2]),([6,5,5,0,1,2,3,4,5],[5,6])])
def Xi.B16:List Nat:=[0,0,2,0,0,30,63,127]
theorem Xi.tab16:rtab .any (opsOf Tryz.f85 16)=Xi.T16:=by kernel_rfl
theorem Xi.bits16:waitsOk Xi.T16.2 Xi.B16=true:=by kernel_rfl
theorem Xi.calls (k:Nat) (A0_0:Option Addr) (c0_0:Nat) (l0_0:List Int) (a0_1:Int) (r:List Int) (w:World) (h0_0:Rw (Kd.int .i64) w A0_0 c0_0 l0_0) (H:Xi.f k l0_0 a0_1=some r) :
  Calls Tryz.prog 85 #[.agg #[.slice A0_0 l0_0.length c0_0,.int .i64 a0_1]] w fun e w'=>∃ v0_:Value,e = .returned (v0_)∧Kd.R (Kd.int .i64) 3 w' w.heap.size (fun _=>True) v0_ r∧Below w.heap.size w w':=by
 have hu41:=Tryz.underlying41
 obtain⟨HR0_0,HC0_0⟩:=h0_0
 have HB:=aM (Below.refl w.heap.size w)
 unfold Xi.f at H
 replace H:=bE H;obtain⟨t102,A2,H⟩:=H
 go_enter Tryz.func85,Tryz.ntmps85
 go_wp2_with (refine boxE 1 #[.slice A0_0 l0_0.length c0_0,.int .i64 a0_1] 41 ?_;intro gbz1 hg wz1 hbox hb;have BKz1:=aM (hbox);have GWz1:=aG hg HB;replace HB:=aS HB hb;clear hb hbox hg;have hczz1:=cZ2 BKz1.out;refine Stop.out ?_)
 refine⟨?_⟩
 cases t102
 case false =>
  rw[if_neg nft] at H
  obtain⟨y103,hy103⟩:∃ y_:List Int,y_=(([]:List Int)):=⟨_,rfl⟩
  replace H:(some y103)=some r:=yH H hy103
  have Ny103:=aM hy103
  clear hy103
  obtain rfl:=sI H
  go_wp2_with (first | (refine gB 93 8 Tryz.func93 (Xn.calls _ _ _ _ _ _ _ (rW HR0_0 HB HC0_0) A2.out) ?_;intro wz2 hb;replace BKz1:=aB BKz1 hb;replace HB:=aS HB hb;clear hb) | ((with_reducible refine gate_dst (N:=10) rfl ?_);refine Kd.R_lit (Kd.int .i64) _ 3 ?hg (N:=10) ?hd (xs:=([]:List Int)) (inner:=[]) (ok:=fun _=>True) (okp:=fun _=>True) ?hr ?hp (fun _ hk=>hk) trivial (Below.refl _ _) (Nat.le_refl _) (by simp) ?_;(case hd=>rfl);(case hg=>rfl);(case hr=>first | (go_simp;done) | (go_simp;rfl));(case hp=>exact(Reps.none _ _));intro vz1 wz3 hoz1 hb hg_ hnew_;clear hg_ hnew_;(first | rw[← Ny103.out] at hoz1 | (simp only[Int.reduceToNat] at hoz1;rw[← Ny103.out] at hoz1));have HOz1:=aM (Kd.R_lower hoz1 (below_size (hX HB.out)));replace BKz1:=aB BKz1 hb;replace HB:=aS HB hb;clear hb hoz1))
  go_ret
  exact⟨_,rE,(rX HOz1.out),(hX HB.out)⟩
 rw[if_pos rfl] at H
 replace H:=ifP H;obtain⟨c4,H⟩:=H
 have c4b0:=eq_true c4
 have c4b1:=decide_eq_true c4
 clear c4
 obtain⟨y106,hy106⟩:∃ y_:List Int,y_=(List.replicate 20 0):=⟨_,rfl⟩
 replace H:(Xi.l0 k y106 0 l0_0 a0_1)=some r:=yH H hy106
 have Ny106:=aM hy106
 clear hy106
 have H':=aM H
 clear H
 go_wp2_with (first | (refine gB 93 8 Tryz.func93 (Xn.calls _ _ _ _ _ _ _ (rW HR0_0 HB HC0_0) A2.out) ?_;intro wz2 hb;replace BKz1:=aB BKz1 hb;replace HB:=aS HB hb;clear hb) | ((with_reducible refine gate_dst (N:=11) rfl ?_);refine Kd.R_make (Kd.int .i64) _ 3 rfl (N:=11) rfl 28 _ _ rfl 20 rfl rfl Tryz.underlying28 (.int .i64 0) 8 info3 rfl (by decide) (by omega) 0 (ok:=fun _=>True) (okp:=fun _=>True) rfl (fun _ hk=>hk) trivial (by omega) (by omega) (Below.refl _ _) (Nat.le_refl _) ?_;intro vz1 wz3 hoz1 hb hg_ hnew_;clear hg_ hnew_;(first | rw[← Ny106.out] at hoz1 | (simp only[Int.reduceToNat] at hoz1;rw[← Ny106.out] at hoz1));have HOz1:=aM (Kd.R_lower hoz1 (below_size (hX HB.out)));replace BKz1:=aB BKz1 hb;replace HB:=aS HB hb;clear hb hoz1))
 go_loopg [4] k (fun kq v4 w'=>∃ (x3_1:List Int) (x4_1:Int),v4 = .int .i64 x4_1∧Aside0 (Xi.l0 kq x3_1 x4_1 l0_0 a0_1=some r)∧Aside0 (kq≤k)∧Aside0 (Kd.R (Kd.int .i64) 3 w' w.heap.size (fun _=>True) vz1 x3_1)∧Aside0 (w'.heap[gbz1]? = some (.cells #[(.slice A0_0 l0_0.length c0_0),.int .i64 a0_1] 41 (0,0)))∧Aside0 (Below w.heap.size w w'))
 case atStart=>exact⟨(y106),(0),rS,H',⟨Nat.le_refl _⟩,⟨(rX HOz1.out)⟩,⟨(bX BKz1.out)⟩,⟨(hX HB.out)⟩⟩
 case round =>
  clear H'
  try clear c4
  try clear c4b0
  try clear c4b1
  try clear hczz1
  obtain⟨x3_1,x4_1,rfl,HA,HKy1,HO_y1,BKz1,HB⟩:=hrel
  cases gk with
  | zero=>exact absurd HA.out (by simp[Xi.l0])
  | succ k1 =>
   have H:=HA.out
   clear HA
   simp only[Xi.l0] at H
   revert H;refine iP ?_ ?_<;>intro c10b0 H
   ·replace H:=ifP H;obtain⟨c11,H⟩:=H
    have c11b0:=decide_eq_true c11
    clear c11
    replace H:=ifQ H;obtain⟨c12b0,H⟩:=H
    replace H:=bE H;obtain⟨t110,A13,H⟩:=H
    replace H:=ifQ H;obtain⟨c14b0,H⟩:=H
    replace H:=ifQ H;obtain⟨c15b0,H⟩:=H
    replace H:=sE H;obtain⟨y111,Ny111,H⟩:=H
    have hczx1:=cZ2 BKz1.out
    obtain⟨adx1,ex1,px1,qx1,hxx1⟩:=at_ic HR0_0 HB x4_1
    cases ex1
    go_wp2_with (first | (refine gD 143 23 Tryz.func143 (Xa9.calls _ _ _ A13.out) ?_;intro nd;(try (rw[drewN_self wr];generalize hq_:World.drewN wr _=wr;have nx1:Aside0 (Kd.R (Kd.int .i64) 3 wr w.heap.size (fun _=>True) vz1 x3_1):=⟨by rw[← hq_];exact(rX HO_y1.out)⟩;have nx2:Aside0 (wr.heap[gbz1]? = some (.cells #[.slice (some adx1) l0_0.length c0_0,.int .i64 a0_1] 41 (0,0))):=⟨by rw[← hq_];exact(bX BKz1.out)⟩;have nx3:Aside0 (Below w.heap.size w wr):=⟨by rw[← hq_];exact(hX HB.out)⟩;clear HO_y1 BKz1 HB hq_;have HO_y1:=nx1;have BKz1:=nx2;have HB:=nx3;clear nx1 nx2 nx3));have px2:0≤(t110:Int):=odA;have qx2:(t110:Int)<((x3_1.length:Int):Int):=odA;obtain⟨gox1,cox1,eox1,gbx1,glx1,clx1,HGx1⟩:=Kd.R_form HO_y1.out (by omega);(first | cases eox1 | (injection eox1 with ea_ en_ ec_;(first | subst ea_ | (injection ea_ with ea_;subst ea_));subst ec_;clear en_));have GBx1:=aM gbx1;have GGx1:=aM HGx1;clear gbx1 glx1 HGx1;obtain⟨hxx2,hfx1⟩:=Kd.R_celln 0 HO_y1.out (t110:Int) px2 qx2;replace px2:=eq_true px2;replace qx2:=eq_true qx2;obtain⟨hyx1,hzx1⟩:=Kd.R_celln 0 HO_y1.out (t110:Int) (odA) (odA);have HPx1:=Kd.R_putg HO_y1.out (t110:Int) (rd l0_0 x4_1)) | ((with_reducible refine gate_store (t:=3) (p:=25) rfl ?_);refine store_event (t:=3) (p:=25) (v:=?vo_wx1) (w1:=(wr.setCell ⟨gox1,(t110:Int).toNat,none⟩ (.int .i64 (rd l0_0 x4_1)))) ?hg ?ho ?hn ?hr ?_;(case ho=>rfl);(case hg=>rfl);(case hn=>rfl);(case hr=>first | (go_simp;done) | (go_simp;rfl));intro wx1 hw;have hg:wr.grownBy wx1 (some gox1):=(by rw[hw];exact HPx1.2);have hp_:Kd.R (Kd.int .i64) 3 wx1 w.heap.size (fun _=>True) (.slice (some ⟨gox1,0,none⟩) x3_1.length cox1) y111:=(by rw[hw,Ny111.out];exact HPx1.1);clear HPx1;replace BKz1:=aM (blk_grown (g:=gbz1) (o:=.cells #[.slice (some adx1) l0_0.length c0_0,.int .i64 a0_1] 41 (0,0)) (bX BKz1.out) hg (Kd.R_ne HO_y1.out BKz1.out (by decide)));replace HO_y1:=aM (hp_);replace HB:=aM ((by rw[hw];exact below_set (HB.out) GBx1.out:Below w.heap.size w wx1));clear hg hw hp_;refine Stop.out ?_))
    refine⟨?_⟩
    revert H;refine eP ?_ ?_<;>intro c17b0 c17b1 H
    ·have H':=aM H
     clear H
     go_wp2
     go_roundg k1
     case measure=>have:=HKy1.out;omega
     case rel=>exact⟨(y111),(wrap64 (x4_1+1)),rS,H',⟨by have:=HKy1.out;omega⟩,⟨(rX HO_y1.out)⟩,⟨(bX BKz1.out)⟩,⟨(hX HB.out)⟩⟩
    replace H:=bE H;obtain⟨t112,A21,H⟩:=H
    replace H:=ifQ H;obtain⟨c22b0,H⟩:=H
    replace H:=ifQ H;obtain⟨c23b0,H⟩:=H
    replace H:=sE H;obtain⟨y113,Ny113,H⟩:=H
    go_wp2_with (first | (refine gD 144 30 Tryz.func144 (XaW.calls _ _ _ A21.out) ?_;intro nd;(try (rw[drewN_self wx1];generalize hq_:World.drewN wx1 _=wx1;have nx1:Aside0 (Kd.R (Kd.int .i64) 3 wx1 w.heap.size (fun _=>True) (.slice (some ⟨gox1,0,none⟩) x3_1.length cox1) y111):=⟨by rw[← hq_];exact(rX HO_y1.out)⟩;have nx2:Aside0 (wx1.heap[gbz1]? = some (.cells #[.slice (some adx1) l0_0.length c0_0,.int .i64 a0_1] 41 (0,0))):=⟨by rw[← hq_];exact(bX BKz1.out)⟩;have nx3:Aside0 (Below w.heap.size w wx1):=⟨by rw[← hq_];exact(hX HB.out)⟩;clear HO_y1 BKz1 HB hq_;have HO_y1:=nx1;have BKz1:=nx2;have HB:=nx3;clear nx1 nx2 nx3));have px3:0≤(t112:Int):=odA;have qx3:(t112:Int)<((x3_1.length:Int):Int):=odA;obtain⟨hxx3,hfx2⟩:=Kd.R_celln 0 HO_y1.out (t112:Int) px3 qx3;replace px3:=eq_true px3;replace qx3:=eq_true qx3;obtain⟨hyx2,hzx2⟩:=Kd.R_celln 0 HO_y1.out (t112:Int) (odA) (odA);have HPx2:=Kd.R_putg HO_y1.out (t112:Int) (wrap64 (x4_1+1))) | ((with_reducible refine gate_store (t:=3) (p:=33) rfl ?_);refine store_event (t:=3) (p:=33) (v:=?vo_wx2) (w1:=(wx1.setCell ⟨gox1,(t112:Int).toNat,none⟩ (.int .i64 (wrap64 (x4_1+1))))) ?hg ?ho ?hn ?hr ?_;(case ho=>rfl);(case hg=>rfl);(case hn=>rfl);(case hr=>first | (go_simp;done) | (go_simp;rfl));intro wx2 hw;have hg:wx1.grownBy wx2 (some gox1):=(by rw[hw];exact HPx2.2);have hp_:Kd.R (Kd.int .i64) 3 wx2 w.heap.size (fun _=>True) (.slice (some ⟨gox1,0,none⟩) x3_1.length cox1) y113:=(by rw[hw,Ny113.out];exact HPx2.1);clear HPx2;replace BKz1:=aM (blk_grown (g:=gbz1) (o:=.cells #[.slice (some adx1) l0_0.length c0_0,.int .i64 a0_1] 41 (0,0)) (bX BKz1.out) hg (Kd.R_ne HO_y1.out BKz1.out (by decide)));replace HO_y1:=aM (hp_);replace HB:=aM ((by rw[hw];exact below_set (HB.out) GBx1.out:Below w.heap.size w wx2));clear hg hw hp_;have hczx3:=cZ2 BKz1.out;refine Stop.out ?_))
    refine⟨?_⟩
    revert H;refine iN ?_ ?_<;>intro c25b0 H
    ·have H':=aM H
     clear H
     go_wp2
     go_roundg k1
     case measure=>have:=HKy1.out;omega
     case rel=>exact⟨(y113),(wrap64 (x4_1+1)),rS,H',⟨by have:=HKy1.out;omega⟩,⟨(rX HO_y1.out)⟩,⟨(bX BKz1.out)⟩,⟨(hX HB.out)⟩⟩
    replace H:=bE H;obtain⟨t114,A26,H⟩:=H
    replace H:=ifQ H;obtain⟨c27b0,H⟩:=H
    replace H:=ifQ H;obtain⟨c28b0,H⟩:=H
    obtain⟨y115,hy115⟩:∃ y_:List Int,y_=(y113.set (t114:Int).toNat (wrap64 (x4_1+1))):=⟨_,rfl⟩
    replace H:(Xi.l0 k1 y115 (wrap64 (x4_1+1)) l0_0 a0_1)=some r:=yH H hy115
    have Ny115:=aM hy115
    clear hy115
    have H':=aM H
    clear H
    go_wp2_with (first | (refine gD 145 41 Tryz.func145 (Xba.calls _ _ _ A26.out) ?_;intro nd;(try (rw[drewN_self wx2];generalize hq_:World.drewN wx2 _=wx2;have nx1:Aside0 (Kd.R (Kd.int .i64) 3 wx2 w.heap.size (fun _=>True) (.slice (some ⟨gox1,0,none⟩) x3_1.length cox1) y113):=⟨by rw[← hq_];exact(rX HO_y1.out)⟩;have nx2:Aside0 (wx2.heap[gbz1]? = some (.cells #[.slice (some adx1) l0_0.length c0_0,.int .i64 a0_1] 41 (0,0))):=⟨by rw[← hq_];exact(bX BKz1.out)⟩;have nx3:Aside0 (Below w.heap.size w wx2):=⟨by rw[← hq_];exact(hX HB.out)⟩;clear HO_y1 BKz1 HB hq_;have HO_y1:=nx1;have BKz1:=nx2;have HB:=nx3;clear nx1 nx2 nx3));have px4:0≤(t114:Int):=odA;have qx4:(t114:Int)<((x3_1.length:Int):Int):=odA;obtain⟨hxx4,hfx3⟩:=Kd.R_celln 0 HO_y1.out (t114:Int) px4 qx4;replace px4:=eq_true px4;replace qx4:=eq_true qx4;obtain⟨hyx3,hzx3⟩:=Kd.R_celln 0 HO_y1.out (t114:Int) (odA) (odA);have HPx3:=Kd.R_putg HO_y1.out (t114:Int) (wrap64 (x4_1+1))) | ((with_reducible refine gate_store (t:=3) (p:=44) rfl ?_);refine store_event (t:=3) (p:=44) (v:=?vo_wx3) (w1:=(wx2.setCell ⟨gox1,(t114:Int).toNat,none⟩ (.int .i64 (wrap64 (x4_1+1))))) ?hg ?ho ?hn ?hr ?_;(case ho=>rfl);(case hg=>rfl);(case hn=>rfl);(case hr=>first | (go_simp;done) | (go_simp;rfl));intro wx3 hw;have hg:wx2.grownBy wx3 (some gox1):=(by rw[hw];exact HPx3.2);have hp_:Kd.R (Kd.int .i64) 3 wx3 w.heap.size (fun _=>True) (.slice (some ⟨gox1,0,none⟩) x3_1.length cox1) y115:=(by rw[hw,Ny115.out];exact HPx3.1);clear HPx3;replace BKz1:=aM (blk_grown (g:=gbz1) (o:=.cells #[.slice (some adx1) l0_0.length c0_0,.int .i64 a0_1] 41 (0,0)) (bX BKz1.out) hg (Kd.R_ne HO_y1.out BKz1.out (by decide)));replace HO_y1:=aM (hp_);replace HB:=aM ((by rw[hw];exact below_set (HB.out) GBx1.out:Below w.heap.size w wx3));clear hg hw hp_))
    go_roundg k1
    case measure=>have:=HKy1.out;omega
    case rel=>exact⟨(y115),(wrap64 (x4_1+1)),rS,H',⟨by have:=HKy1.out;omega⟩,⟨(rX HO_y1.out)⟩,⟨(bX BKz1.out)⟩,⟨(hX HB.out)⟩⟩
   have H':=aM H
   clear H
   go_wp2
   go_loopg [6] k1 (fun kq v6 w'=>∃ (x3_2:List Int) (x6_2:Int),v6 = .int .i64 x6_2∧Aside0 (Xi.l1 kq x3_2 x6_2 l0_0 a0_1=some r)∧Aside0 (kq≤k1)∧Aside0 (Kd.R (Kd.int .i64) 3 w' w.heap.size (fun _=>True) vz1 x3_2)∧Aside0 (w'.heap[gbz1]? = some (.cells #[(.slice A0_0 l0_0.length c0_0),.int .i64 a0_1] 41 (0,0)))∧Aside0 (Below w.heap.size w w'))
   case atStart=>exact⟨(x3_1),(0),rS,H',⟨Nat.le_refl _⟩,⟨(rX HO_y1.out)⟩,⟨(bX BKz1.out)⟩,⟨(hX HB.out)⟩⟩
   case round =>
    clear H'
    try clear c4
    try clear c4b0
    try clear c4b1
    try clear c10b0
    try clear hczz1
    obtain⟨x3_2,x6_2,rfl,HA,HKw1,HO_y1,BKz1,HB⟩:=hrel
    cases gk with
    | zero=>exact absurd HA.out (by simp[Xi.l1])
    | succ k2 =>
     have H:=HA.out
     clear HA
     simp only[Xi.l1] at H
     revert H;refine iN ?_ ?_<;>intro c44b0 H
     ·replace H:=bE H;obtain⟨t119,A53,H⟩:=H
      replace H:=ifQ H;obtain⟨c54b0,H⟩:=H
      replace H:=ifQ H;obtain⟨c55b0,H⟩:=H
      obtain⟨y120,hy120⟩:∃ y_:List Int,y_=(x3_2.set (t119:Int).toNat a0_1):=⟨_,rfl⟩
      replace H:(some y120)=some r:=yH H hy120
      have Ny120:=aM hy120
      clear hy120
      obtain rfl:=sI H
      try go_wp2
      replace HO_y1:=aM (Kd.R_drew HO_y1.out)
      replace BKz1:=aM (blk_drew BKz1.out)
      replace HB:=aM (below_drew1 HB.out)
      refine start_ (n:=6) (S:=fun w'=>w'.cell? ⟨gbz1,0,none⟩=some (.slice A0_0 l0_0.length c0_0)∧w'.cell? ⟨gbz1,1,none⟩=some (.int .i64 a0_1)) (ds:=[5]) (bm 6 0) (by kernel_rfl) rfl (by kernel_rfl) ⟨cK BKz1.out 0,cK BKz1.out 1⟩ (fun hHeld => ?_)
      generalize wr.drew=wv1 at HO_y1 BKz1 HB hHeld ⊢
      refine pK 0 56 (bm 6 1) ?_
      refine pK 2 58 (bm 6 5) ?_
      refine tK 3 59 (bm 6 13) hHeld ?_
      refine oK 1 (some 57) (bm 6 15) (fun K hK => ?_)
      refine goesN Tryz.func115 #[] ?_
      with_reducible refine(XaC.calls _ _ A53.out).mono ?_
      rintro e w' ⟨rfl,⟨nd,rfl⟩⟩
      refine⟨_,rfl,?_⟩
      have pv1:0≤(t119:Int):=odA
      have qv1:(t119:Int)<((x3_2.length:Int):Int):=odA
      obtain⟨gov1,cov1,eov1,gbv1,glv1,clv1,HGv1⟩:=Kd.R_form HO_y1.out (by omega)
      (first | cases eov1 | (injection eov1 with ea_ en_ ec_;(first | subst ea_ | (injection ea_ with ea_;subst ea_));subst ec_;clear en_))
      have GBv1:=aM gbv1
      have GGv1:=aM HGv1
      clear gbv1 glv1 HGv1
      obtain⟨hxv1,hfv1⟩:=Kd.R_celln 0 HO_y1.out (t119:Int) pv1 qv1
      replace pv1:=eq_true pv1
      replace qv1:=eq_true qv1
      have HPv1:=Kd.R_putn HO_y1.out (t119:Int) a0_1
      rw[← Ny120.out] at HPv1
      have HQv1:=aM HPv1
      clear HPv1
      refine hK.out _ _ ⟨cK BKz1.out 0,cK BKz1.out 1⟩ (fun hHeld => ?_)
      clear hK K
      refine nZ 57 ?_
      refine pK 4 60 (bm 6 31) ?_
      refine last_ (i:=5) (N:=none) #[true,true,true,true,true,true] rfl rfl (by kernel_rfl) (by decide) (fun K hK => ?_)
      refine skip_ (w1:=?_) (by rfl) rfl ?_ ?_
      rotate_left
      ·go_simp
       rfl
      refine hK.out _ _ ?_
      clear hK K
      refine done_ (by kernel_rfl) ?_
      try go_wp2
      go_ret
      exact⟨_,rE,(rX HQv1.out),(hX HB.out)⟩
     replace H:=bE H;obtain⟨t116,A45,H⟩:=H
     replace H:=bE H;obtain⟨t117,A46,H⟩:=H
     replace H:=ifQ H;obtain⟨c47b0,H⟩:=H
     replace H:=ifQ H;obtain⟨c48b0,H⟩:=H
     obtain⟨y118,hy118⟩:∃ y_:List Int,y_=(x3_2.set (t116:Int).toNat t117):=⟨_,rfl⟩
     replace H:(Xi.l1 k2 y118 (wrap64 (x6_2+1)) l0_0 a0_1)=some r:=yH H hy118
     have Ny118:=aM hy118
     clear hy118
     have H':=aM H
     clear H
     try go_wp2
     replace HO_y1:=aM (Kd.R_drew HO_y1.out)
     replace BKz1:=aM (blk_drew BKz1.out)
     replace HB:=aM (below_drew1 HB.out)
     refine start_ (n:=8) (S:=fun w'=>w'.cell? ⟨gbz1,0,none⟩=some (.slice A0_0 l0_0.length c0_0)∧w'.cell? ⟨gbz1,1,none⟩=some (.int .i64 a0_1)) (ds:=[7]) (bm 8 0) (by kernel_rfl) rfl (by kernel_rfl) ⟨cK BKz1.out 0,cK BKz1.out 1⟩ (fun hHeld => ?_);refine with_tabW Xi.tab16 Xi.bits16 (fun HT_ HW_ => ?_)
     generalize wr.drew=wv1 at HO_y1 BKz1 HB hHeld ⊢
     refine pZ 0 49 (bm 8 1) HT_.out ?_
     refine pZ 1 50 (bm 8 3) HT_.out ?_
     refine pZ 4 53 (bm 8 19) HT_.out ?_
     refine tZ 3 52 (bm 8 27) HT_.out HW_.out hHeld ?_
     refine oZ 2 (some 51) (bm 8 31) HT_.out (fun K hK => ?_)
     refine goesN Tryz.func147 #[.int .i64 x6_2] ?_
     with_reducible refine(XaV.calls _ _ _ A45.out).mono ?_
     rintro e w' ⟨rfl,⟨nd,rfl⟩⟩
     refine⟨_,rfl,?_⟩
     refine hK.out _ _ ⟨cK BKz1.out 0,cK BKz1.out 1⟩ (fun hHeld => ?_)
     clear hK K
     refine nZ 51 ?_
     refine oZ 5 (some 54) (bm 8 63) HT_.out (fun K hK => ?_)
     refine goesN Tryz.func146 #[.agg #[.slice A0_0 l0_0.length c0_0,.int .i64 a0_1],.int .i64 x6_2] ?_
     refine(Xaa.calls k2 _ _ l0_0 a0_1 x6_2 t117 _ (rW HR0_0 HB HC0_0) A46.out).mono ?_
     rintro e wv2 ⟨rfl,hb⟩
     refine⟨_,rfl,?_⟩
     replace HO_y1:=aQ HO_y1 hb
     replace BKz1:=aB BKz1 hb
     replace HB:=aS HB hb
     (try clear hb)
     (try clear hk)
     have pv1:0≤(t116:Int):=odA
     have qv1:(t116:Int)<((x3_2.length:Int):Int):=odA
     obtain⟨gov1,cov1,eov1,gbv1,glv1,clv1,HGv1⟩:=Kd.R_form HO_y1.out (by omega)
     (first | cases eov1 | (injection eov1 with ea_ en_ ec_;(first | subst ea_ | (injection ea_ with ea_;subst ea_));subst ec_;clear en_))
     have GBv1:=aM gbv1
     have GGv1:=aM HGv1
     clear gbv1 glv1 HGv1
     obtain⟨hxv1,hfv1⟩:=Kd.R_celln 0 HO_y1.out (t116:Int) pv1 qv1
     replace pv1:=eq_true pv1
     replace qv1:=eq_true qv1
     have HPv1:=Kd.R_putn HO_y1.out (t116:Int) t117
     rw[← Ny118.out] at HPv1
     have HQv1:=aM HPv1
     clear HPv1
     refine hK.out _ _ ⟨cK BKz1.out 0,cK BKz1.out 1⟩ (fun hHeld => ?_)
     clear hK K
     refine nZ 54 ?_
     refine pZ 6 55 (bm 8 127) HT_.out ?_
     refine last_ (i:=7) (N:=none) #[true,true,true,true,true,true,true,true] rfl rfl (one_of HT_.out (by kernel_rfl)) (by decide) (fun K hK => ?_)
     refine skip_ (w1:=?_) (by rfl) rfl ?_ ?_
     rotate_left
     ·go_simp
      rfl
     refine hK.out _ _ ?_
     clear hK K
     refine done_ (done_of HT_.out (by kernel_rfl)) ?_
     try go_wp2
     go_roundg k2
     case measure=>have:=HKy1.out;have:=HKw1.out;omega
     case rel=>exact⟨(y118),(wrap64 (x6_2+1)),rS,H',⟨by have:=HKy1.out;have:=HKw1.out;omega⟩,⟨(rX HQv1.out)⟩,⟨by (with_reducible repeat (first | refine blk_drewN ?_ _ | refine blk_drew ?_ | refine blk_alloc ?_ _));refine blk_far ?_ (by have h_:=Kd.R_ne HO_y1.out BKz1.out (by decide);intro e_;exact h_ (by rw[e_];rfl)) _;(with_reducible repeat (first | refine blk_drewN ?_ _ | refine blk_drew ?_ | refine blk_alloc ?_ _));exact BKz1.out⟩,⟨(hX HB.out)⟩⟩
def XG.l0:Nat→List (S162)→Int→Int→Option (Int)
 | 0,_,_,_=>none
 | k+1,x0,x7,x8=>if x8<x7 then (if 0≤x8 then (if x8<(x0.length:Int) then ((XaO.f k ((rd_T162 x0 x8).f0) ((rd_T162 x0 x8).f1) ((rd_T162 x0 x8).f2) ((rd_T162 x0 x8).f3.f0) ((rd_T162 x0 x8).f3.f1)).bind fun t102=>(if t102=true then (some x8) else (XG.l0 k x0 x7 (wrap64 (x8+1))))) else (none)) else (none)) else (some (-1))
def XG.f (k:Nat) (l0:List (S162))  : Option (Int):=XG.l0 k l0 (l0.length:Int) 0
theorem XG.calls (k:Nat) (A0:Option Addr) (c0:Nat) (l0:List (S162)) (r:Int) (w:World) (h0:Rw k162 w A0 c0 l0) (H:XG.f k l0=some r) :
  Calls Tryz.prog 208 #[.slice A0 l0.length c0,.func (.func 170) #[] #[]] w fun e w'=>e = .returned (.int .i64 r)∧Below w.heap.size w w':=by
 have hu162:=Tryz.underlying162
 obtain⟨HR0,HC0⟩:=h0
 have HB:=aM (Below.refl w.heap.size w)
 unfold XG.f at H
 have H':=aM H
 clear H
 go_enter Tryz.func208,Tryz.ntmps208
 go_wp2
 go_loopg [8] k (fun kq v8 w'=>∃ (x8_1:Int),v8 = .int .i64 x8_1∧Aside0 (XG.l0 kq l0 (l0.length:Int) x8_1=some r)∧Aside0 (kq≤k)∧Aside0 (Below w.heap.size w w'))
 case atStart=>exact⟨(0),rS,H',⟨Nat.le_refl _⟩,⟨(hX HB.out)⟩⟩
 case round =>
  clear H'
  obtain⟨x8_1,rfl,HA,HKy1,HB⟩:=hrel
  cases gk with
  | zero=>exact absurd HA.out (by simp[XG.l0])
  | succ k1 =>
   have H:=HA.out
   clear HA
   simp only[XG.l0] at H
   revert H;refine iN ?_ ?_<;>intro c3b0 H
   ·obtain rfl:=sI H
    exact fS
   replace H:=ifQ H;obtain⟨c4b0,H⟩:=H
   replace H:=ifQ H;obtain⟨c5b0,H⟩:=H
   replace H:=bE H;obtain⟨t102,A6,H⟩:=H
   cases t102
   case true =>
    rw[if_pos rfl] at H
    obtain rfl:=sI H
    obtain⟨adx1,Ax1,cx1,Ax2,cx2,ex1,px1,qx1,hxx1,HCx1,HRx1,HCx2,HRx2⟩:=at_T162c HR0 HB x8_1
    cases ex1
    go_wp2_with ((with_reducible refine Go.Proofs.YtmljebgideecjaaGreatZ.gate_calleeT (t:=11) rfl ?_);refine Go.Proofs.YtmljebgideecjaaGreatZ.goesT_ (some 16) 11 rfl rfl Tryz.func170 (by kernel_rfl) rfl #[.agg #[.int .i64 ((rd_T162 l0 x8_1).f0),.int .i64 ((rd_T162 l0 x8_1).f1),.slice Ax1 ((rd_T162 l0 x8_1).f2).length cx1,.int .i64 ((rd_T162 l0 x8_1).f3.f0),.slice Ax2 ((rd_T162 l0 x8_1).f3.f1).length cx2]] rfl rfl (by (try simp only[List.map_toArray,List.map_cons,List.map_nil]);first | done | rfl | (simp only[List.length_drop,List.length_take];rfl)) ?_;refine(XaO.calls k1 ((rd_T162 l0 x8_1).f0) ((rd_T162 l0 x8_1).f1) _ _ ((rd_T162 l0 x8_1).f2) ((rd_T162 l0 x8_1).f3.f0) _ _ ((rd_T162 l0 x8_1).f3.f1) true _ (rW HRx1 HB HCx1) (rW HRx2 HB HCx2) A6.out).mono ?_;rintro e wx1 ⟨rfl,hb⟩;refine⟨_,rfl,?_⟩;replace HB:=aS HB hb;clear hb)
    go_ret
    exact⟨rE,(hX HB.out)⟩
   rw[if_neg nft] at H
   have H':=aM H
   clear H
   obtain⟨adx1,Ax1,cx1,Ax2,cx2,ex1,px1,qx1,hxx1,HCx1,HRx1,HCx2,HRx2⟩:=at_T162c HR0 HB x8_1
   cases ex1
   go_wp2_with ((with_reducible refine Go.Proofs.YtmljebgideecjaaGreatZ.gate_calleeT (t:=11) rfl ?_);refine Go.Proofs.YtmljebgideecjaaGreatZ.goesT_ (some 16) 11 rfl rfl Tryz.func170 (by kernel_rfl) rfl #[.agg #[.int .i64 ((rd_T162 l0 x8_1).f0),.int .i64 ((rd_T162 l0 x8_1).f1),.slice Ax1 ((rd_T162 l0 x8_1).f2).length cx1,.int .i64 ((rd_T162 l0 x8_1).f3.f0),.slice Ax2 ((rd_T162 l0 x8_1).f3.f1).length cx2]] rfl rfl (by (try simp only[List.map_toArray,List.map_cons,List.map_nil]);first | done | rfl | (simp only[List.length_drop,List.length_take];rfl)) ?_;refine(XaO.calls k1 ((rd_T162 l0 x8_1).f0) ((rd_T162 l0 x8_1).f1) _ _ ((rd_T162 l0 x8_1).f2) ((rd_T162 l0 x8_1).f3.f0) _ _ ((rd_T162 l0 x8_1).f3.f1) false _ (rW HRx1 HB HCx1) (rW HRx2 HB HCx2) A6.out).mono ?_;rintro e wx1 ⟨rfl,hb⟩;refine⟨_,rfl,?_⟩;replace HB:=aS HB hb;clear hb)
   go_roundg k1
   case measure=>have:=HKy1.out;omega
   case rel=>exact⟨(wrap64 (x8_1+1)),rS,H',⟨by have:=HKy1.out;omega⟩,⟨(hX HB.out)⟩⟩
def XR.l0:Nat→List (S69)→Int→Int→Option (Int)
 | 0,_,_,_=>none
 | k+1,x0,x7,x8=>if x8<x7 then (if 0≤x8 then (if x8<(x0.length:Int) then ((Xay.f k ((rd_T69 x0 x8).f0) ((rd_T69 x0 x8).f1) ((rd_T69 x0 x8).f2)).bind fun t102=>(if t102=true then (some x8) else (XR.l0 k x0 x7 (wrap64 (x8+1))))) else (none)) else (none)) else (some (-1))
def XR.f (k:Nat) (l0:List (S69))  : Option (Int):=XR.l0 k l0 (l0.length:Int) 0
theorem XR.calls (k:Nat) (A0:Option Addr) (c0:Nat) (l0:List (S69)) (r:Int) (w:World) (h0:Rw k69 w A0 c0 l0) (H:XR.f k l0=some r) :
  Calls Tryz.prog 210 #[.slice A0 l0.length c0,.func (.func 179) #[] #[]] w fun e w'=>e = .returned (.int .i64 r)∧Below w.heap.size w w':=by
 have hu69:=Tryz.underlying69
 obtain⟨HR0,HC0⟩:=h0
 have HB:=aM (Below.refl w.heap.size w)
 unfold XR.f at H
 have H':=aM H
 clear H
 go_enter Tryz.func210,Tryz.ntmps210
 go_wp2
 go_loopg [8] k (fun kq v8 w'=>∃ (x8_1:Int),v8 = .int .i64 x8_1∧Aside0 (XR.l0 kq l0 (l0.length:Int) x8_1=some r)∧Aside0 (kq≤k)∧Aside0 (Below w.heap.size w w'))
 case atStart=>exact⟨(0),rS,H',⟨Nat.le_refl _⟩,⟨(hX HB.out)⟩⟩
 case round =>
  clear H'
  obtain⟨x8_1,rfl,HA,HKy1,HB⟩:=hrel
  cases gk with
  | zero=>exact absurd HA.out (by simp[XR.l0])
  | succ k1 =>
   have H:=HA.out
   clear HA
   simp only[XR.l0] at H
   revert H;refine iN ?_ ?_<;>intro c3b0 H
   ·obtain rfl:=sI H
    exact fS
   replace H:=ifQ H;obtain⟨c4b0,H⟩:=H
   replace H:=ifQ H;obtain⟨c5b0,H⟩:=H
   replace H:=bE H;obtain⟨t102,A6,H⟩:=H
   cases t102
   case true =>
    rw[if_pos rfl] at H
    obtain rfl:=sI H
    obtain⟨adx1,ex1,px1,qx1,hxx1⟩:=at_T69c HR0 HB x8_1
    cases ex1
    go_wp2_with ((with_reducible refine Go.Proofs.YtmljebgideecjaaGreatZ.gate_calleeT (t:=11) rfl ?_);refine Go.Proofs.YtmljebgideecjaaGreatZ.goesT_ (some 16) 11 rfl rfl Tryz.func179 (by kernel_rfl) rfl #[.agg #[.int .i64 ((rd_T69 l0 x8_1).f0),.int .i64 ((rd_T69 l0 x8_1).f1),.int .i64 ((rd_T69 l0 x8_1).f2)]] rfl rfl (by (try simp only[List.map_toArray,List.map_cons,List.map_nil]);first | done | rfl | (simp only[List.length_drop,List.length_take];rfl)) ?_;(with_reducible refine(Xay.calls _ _ _ _ _ _ A6.out).mono ?_);rintro e wx1 ⟨rfl,hb⟩;refine⟨_,rfl,?_⟩;replace HB:=aS HB hb;clear hb)
    go_ret
    exact⟨rE,(hX HB.out)⟩
   rw[if_neg nft] at H
   have H':=aM H
   clear H
   obtain⟨adx1,ex1,px1,qx1,hxx1⟩:=at_T69c HR0 HB x8_1
   cases ex1
   go_wp2_with ((with_reducible refine Go.Proofs.YtmljebgideecjaaGreatZ.gate_calleeT (t:=11) rfl ?_);refine Go.Proofs.YtmljebgideecjaaGreatZ.goesT_ (some 16) 11 rfl rfl Tryz.func179 (by kernel_rfl) rfl #[.agg #[.int .i64 ((rd_T69 l0 x8_1).f0),.int .i64 ((rd_T69 l0 x8_1).f1),.int .i64 ((rd_T69 l0 x8_1).f2)]] rfl rfl (by (try simp only[List.map_toArray,List.map_cons,List.map_nil]);first | done | rfl | (simp only[List.length_drop,List.length_take];rfl)) ?_;(with_reducible refine(Xay.calls _ _ _ _ _ _ A6.out).mono ?_);rintro e wx1 ⟨rfl,hb⟩;refine⟨_,rfl,?_⟩;replace HB:=aS HB hb;clear hb)
   go_roundg k1
   case measure=>have:=HKy1.out;omega
   case rel=>exact⟨(wrap64 (x8_1+1)),rS,H',⟨by have:=HKy1.out;omega⟩,⟨(hX HB.out)⟩⟩
def Xap.f (k:Nat) (l0:List (S172))  : Option (Bool):=(XF.f k l0).bind fun t101=>(some (decide (t101 ≥ 0)))
theorem Xap.calls (k:Nat) (A0:Option Addr) (c0:Nat) (l0:List (S172)) (r:Bool) (w:World) (h0:Rw k172 w A0 c0 l0) (H:Xap.f k l0=some r) :
  Calls Tryz.prog 180 #[.slice A0 l0.length c0,.func (.func 181) #[] #[]] w fun e w'=>e = .returned (.bool r)∧Below w.heap.size w w':=by
 obtain⟨HR0,HC0⟩:=h0
 have HB:=aM (Below.refl w.heap.size w)
 unfold Xap.f at H
 replace H:=bE H;obtain⟨t101,A3,H⟩:=H
 obtain rfl:=sI H
 go_enter Tryz.func180,Tryz.ntmps180
 go_wp2_with (refine gB 211 7 Tryz.func211 (XF.calls _ _ _ _ _ _ (rw2 (cX HR0.out) HC0.out) A3.out) ?_;intro wz1 hb;replace HB:=aS HB hb;clear hb)
 go_ret
 exact⟨rE,(hX HB.out)⟩
theorem XaB.new (k:Nat) (okW okD okT okC okO okF:Nat→Prop) (vW vD vT vC vO vF:Value) (l0:List (S140)) (l1:List (S162)) (l2:List (S97)) (a3:Int) (l4:List (S73)) (l5:List Int) (l6:List Int) (a7 a1 r:Int) (q0:List S140) (q1:List S162) (q2:List S97) (q4:List S73) (q5 q6:List Int) (w0 w:World) (hB:Below w0.heap.size w0 w)
  (hW:Kd.R k140 140 w w0.heap.size okW vW l0) (hD:Kd.S k162 162 w w0.heap.size okD vD l1) (h4:l4=[]) (hC:Kd.S k73 73 w w0.heap.size okC vC l4) (hT:Kd.S k97 97 w w0.heap.size okT vT l2) (hO:Kd.R (Kd.int .i64) 3 w w0.heap.size okO vO l5) (hF:Kd.R (Kd.int .i64) 3 w w0.heap.size okF vF l6)
  (hDO:∀ k,okD k→some k ≠ vO.ownBlock) (hDF:∀ k,okD k→some k ≠ vF.ownBlock) (hOF:∀ k,okO k→some k ≠ vF.ownBlock) (H:XaB.g k l0 l1 l2 l4 l5 l6 a7 a1=some (r,q0,q1,q2,q4,q5,q6)) :
  Calls Tryz.prog 27 #[.agg #[vW,vD,vT,.int .i64 a3,vC,vO,vF,.int .i64 a7],.int .i64 a1] w fun e w'=>e = .returned (.int .i64 r)∧Kd.R k140 140 w' w0.heap.size okW vW q0∧Kd.S k162 162 w' w0.heap.size okD vD q1∧Kd.S k97 97 w' w0.heap.size okT vT q2∧Kd.S k73 73 w' w0.heap.size okC vC q4∧Kd.R (Kd.int .i64) 3 w' w0.heap.size okO vO q5∧Kd.R (Kd.int .i64) 3 w' w0.heap.size okF vF q6∧Below w0.heap.size w0 w' ∧
   Kept w w' (fun k=>some k=vW.ownBlock ∨ okD k ∨ okT k ∨ some k=vC.ownBlock ∨ some k=vO.ownBlock ∨ some k=vF.ownBlock):=by
 subst h4
 have hu43:=Tryz.underlying43
 have HW:=aM hW
 have HD:=aM (Deep.S_ty (l:=[162,165,3]) hD)
 have HT:=aM (Deep.S_ty (l:=[97,69,172,174]) hT)
 have HCo:=aM ((Kd.S_R hC).1)
 have HC:=aM (S_nilT hC)
 have hCt:=aM (Deep.own_ty (Kd.S_R hC))
 have HO:=aM hO
 have HF:=aM hF
 have hWt:=aM (Deep.own_ty hW)
 have hOt:=aM (Deep.own_ty hO)
 have hFt:=aM (Deep.own_ty hF)
 have hoo:=aM (⟨hDO,hDF⟩:(∀ k,okD k→some k ≠ vO.ownBlock)∧(∀ k,okD k→some k ≠ vF.ownBlock))
 have hof:=aM (fun k (e:vO.ownBlock=some k)=>hOF k (hO.1 k e))
 have HB:=aM hB
 clear hB hW hD hT hC hO hF hDO hDF hOF
 unfold XaB.g at H
 replace H:=bE H;obtain⟨⟨t1,u1,u2⟩,A1,H⟩:=H
 replace H:=bE H;obtain⟨⟨t2,u3⟩,A2,H⟩:=H
 replace H:=bE H;obtain⟨⟨t3,u4⟩,A3,H⟩:=H
 replace H:=bE H;obtain⟨⟨t4,u5⟩,A4,H⟩:=H
 replace H:=bE H;obtain⟨⟨t5,u6⟩,A5,H⟩:=H
 simp only[Option.some.injEq,Prod.mk.injEq] at H
 obtain⟨rfl,rfl,rfl,rfl,rfl,rfl,rfl⟩:=H
 obtain⟨Ao0,co0,eo⟩:=Kd.R_slice HW.out
 subst eo
 obtain⟨Ao1,co1,eo⟩:=Kd.S_slice HD.out
 subst eo
 obtain⟨Ao2,co2,eo⟩:=Kd.S_slice HT.out
 subst eo
 obtain⟨Ao4,co4,eo⟩:=Kd.S_slice HC.out
 subst eo
 obtain⟨Ao5,co5,eo⟩:=Kd.R_slice HO.out
 subst eo
 obtain⟨Ao6,co6,eo⟩:=Kd.R_slice HF.out
 subst eo
 go_enter Tryz.func27,Tryz.ntmps27
 go_wp2_with (first | (refine boxE 2 #[.slice Ao0 l0.length co0,.slice Ao1 l1.length co1,.slice Ao2 l2.length co2,.int .i64 a3,.slice Ao4 ([]:List S73).length co4,.slice Ao5 l5.length co5,.slice Ao6 l6.length co6,.int .i64 a7] 43 ?_;intro gbz1 hg wz1 hbox hb;have BK:=aM (hbox);replace HW:=aQ HW hb;replace HD:=aT HD hb;replace HT:=aT HT hb;replace HC:=aT HC hb;replace HO:=aQ HO hb;replace HF:=aQ HF hb;have HK:=aM (Kept.of_below hb (fun k=>some k=(Value.slice Ao0 l0.length co0).ownBlock ∨ okD k ∨ okT k ∨ some k=(Value.slice Ao4 ([]:List S73).length co4).ownBlock ∨ some k=(Value.slice Ao5 l5.length co5).ownBlock ∨ some k=(Value.slice Ao6 l6.length co6).ownBlock));have hgw:=aM (show w.heap.size≤gbz1 from Nat.le_of_eq hg.symm);replace HB:=aS HB hb;clear hb hbox hg;have hcz1:=cZ8 BK.out) | ((with_reducible refine gate_callee (f:=73) rfl ?_);refine goesM 73 8 Tryz.func73 #[.agg #[.slice Ao0 l0.length co0,.slice Ao1 l1.length co1],.int .i64 a1] ?_;refine(Xa6.calls k okW (fun k_=>okD k_∧Deep.Ty w k_ [162,165,3]) _ _ l0 l1 a1 t1 u1 u2 w0 _ HB.out HW.out HD.out A1.out).mono ?_;rintro e wz2 ⟨rfl,hw1,hd1,hb,hkp⟩;refine⟨_,rfl,?_⟩;replace BK:=aM (blk_kept BK.out hkp (fun e_=>Nat.not_lt.2 hgw.out (e_.elim (fun e_=>Deep.Ty_lt (hWt.out _ e_.symm)) (fun e_=>Deep.Ty_lt e_.2))));replace HK:=aM (Kept.then_ HK.out hkp (fun k_ e_ => .inl (e_.elim (fun e_ => .inl e_) (fun e_ => .inr (.inl e_.1)))));replace HT:=aM (Kd.S_kept HT.out hkp (fun k_ h_ e_=>e_.elim (fun e_=>Deep.Ty_no (l:=[140]) (hWt.out k_ e_.symm) h_.2 (by decide)) (fun e_=>Deep.Ty_no (l:=[97,69,172,174]) h_.2 e_.2 (by decide))));replace HC:=aM (Kd.S_kept HC.out hkp (fun k_ h_ e_=>e_.elim (fun e_=>Deep.Ty_no (l:=[140]) (hWt.out k_ e_.symm) (hCt.out k_ h_.symm) (by decide)) (fun e_=>Deep.Ty_no (l:=[73]) (hCt.out k_ h_.symm) e_.2 (by decide))));replace HO:=aM (Kd.R_reok rfl (Kd.R_kept (Kd.R_tight rfl HO.out) hkp (fun k_ h_ e_=>e_.elim (fun e_=>Deep.Ty_no (l:=[3]) (hOt.out k_ h_.symm) (hWt.out k_ e_.symm) (by decide)) (fun e_=>hoo.out.1 k_ e_.1 h_))) (fun k_ e_=>HO.out.1 k_ e_));replace HF:=aM (Kd.R_reok rfl (Kd.R_kept (Kd.R_tight rfl HF.out) hkp (fun k_ h_ e_=>e_.elim (fun e_=>Deep.Ty_no (l:=[3]) (hFt.out k_ h_.symm) (hWt.out k_ e_.symm) (by decide)) (fun e_=>hoo.out.2 k_ e_.1 h_))) (fun k_ e_=>HF.out.1 k_ e_));replace HW:=aM hw1;replace HD:=aM hd1;replace HB:=aM hb;clear hb hkp hw1  hd1;have hcz_wz2:=cZ8 BK.out) | ((with_reducible refine gate_callee (f:=74) rfl ?_);refine goesM 74 12 Tryz.func74 #[.slice Ao2 l2.length co2,.int .i64 t1] ?_;refine(XM.calls k (fun k_=>okT k_∧Deep.Ty w k_ [97,69,172,174]) _ l2 t1 t2 u3 w0 _ HB.out HT.out A2.out).mono ?_;rintro e wz3 ⟨rfl,hs1,hb,hkp⟩;refine⟨_,rfl,?_⟩;replace BK:=aM (blk_kept BK.out hkp (fun e_=>Nat.not_lt.2 hgw.out (Deep.Ty_lt e_.2)));replace HK:=aM (Kept.then_ HK.out hkp (fun k_ e_ => .inl (.inr (.inr (.inl e_.1)))));replace HW:=aM (Kd.R_reok rfl (Kd.R_kept (Kd.R_tight rfl HW.out) hkp (fun k_ h_ e_=>Deep.Ty_no (l:=[140]) (hWt.out k_ h_.symm) e_.2 (by decide))) (fun k_ e_=>HW.out.1 k_ e_));replace HD:=aM (Kd.S_kept HD.out hkp (fun k_ h_ e_=>Deep.Ty_no (l:=[162,165,3]) h_.2 e_.2 (by decide)));replace HC:=aM (Kd.S_kept HC.out hkp (fun k_ h_ e_=>Deep.Ty_no (l:=[73]) (hCt.out k_ h_.symm) e_.2 (by decide)));replace HO:=aM (Kd.R_reok rfl (Kd.R_kept (Kd.R_tight rfl HO.out) hkp (fun k_ h_ e_=>Deep.Ty_no (l:=[3]) (hOt.out k_ h_.symm) e_.2 (by decide))) (fun k_ e_=>HO.out.1 k_ e_));replace HF:=aM (Kd.R_reok rfl (Kd.R_kept (Kd.R_tight rfl HF.out) hkp (fun k_ h_ e_=>Deep.Ty_no (l:=[3]) (hFt.out k_ h_.symm) e_.2 (by decide))) (fun k_ e_=>HF.out.1 k_ e_));replace HT:=aM hs1;replace HB:=aM hb;clear hb hkp hs1;have hcz_wz3:=cZ8 BK.out) | ((with_reducible refine gate_callee (f:=75) rfl ?_);refine goesM 75 16 Tryz.func75 #[.slice Ao4 ([]:List S73).length co4,.int .i64 t2] ?_;refine(X4.calls k (fun k_=>some k_=(Value.slice Ao4 ([]:List S73).length co4).ownBlock) _ [] t2 t3 u4 w0 _ HB.out HC.out A3.out).mono ?_;rintro e wz4 ⟨rfl,hs1,hb,hkp⟩;refine⟨_,rfl,?_⟩;replace BK:=aM (blk_kept BK.out hkp (fun e_=>Nat.not_lt.2 hgw.out (Deep.Ty_lt (hCt.out _ e_.symm))));replace HK:=aM (Kept.then_ HK.out hkp (fun k_ e_ => .inl (.inr (.inr (.inr (.inl e_))))));replace HW:=aM (Kd.R_reok rfl (Kd.R_kept (Kd.R_tight rfl HW.out) hkp (fun k_ h_ e_=>Deep.Ty_no (l:=[140]) (hWt.out k_ h_.symm) (hCt.out k_ e_.symm) (by decide))) (fun k_ e_=>HW.out.1 k_ e_));replace HD:=aM (Kd.S_kept HD.out hkp (fun k_ h_ e_=>Deep.Ty_no (l:=[162,165,3]) h_.2 (hCt.out k_ e_.symm) (by decide)));replace HT:=aM (Kd.S_kept HT.out hkp (fun k_ h_ e_=>Deep.Ty_no (l:=[97,69,172,174]) h_.2 (hCt.out k_ e_.symm) (by decide)));replace HO:=aM (Kd.R_reok rfl (Kd.R_kept (Kd.R_tight rfl HO.out) hkp (fun k_ h_ e_=>Deep.Ty_no (l:=[3]) (hOt.out k_ h_.symm) (hCt.out k_ e_.symm) (by decide))) (fun k_ e_=>HO.out.1 k_ e_));replace HF:=aM (Kd.R_reok rfl (Kd.R_kept (Kd.R_tight rfl HF.out) hkp (fun k_ h_ e_=>Deep.Ty_no (l:=[3]) (hFt.out k_ h_.symm) (hCt.out k_ e_.symm) (by decide))) (fun k_ e_=>HF.out.1 k_ e_));replace HC:=aM hs1;replace HB:=aM hb;clear hb hkp hs1;have hcz_wz4:=cZ8 BK.out) | ((with_reducible refine gate_callee (f:=71) rfl ?_);refine goesM 71 20 Tryz.func71 #[.slice Ao5 l5.length co5,.int .i64 t3] ?_;refine(Xy.calls k (fun k_=>some k_=(Value.slice Ao5 l5.length co5).ownBlock) _ l5 t3 t4 u5 w0 _ HB.out (Kd.R_tight rfl HO.out) A4.out).mono ?_;rintro e wz5 ⟨rfl,hs1,hb,hkp⟩;refine⟨_,rfl,?_⟩;replace BK:=aM (blk_kept BK.out hkp (fun e_=>Nat.not_lt.2 hgw.out (Deep.Ty_lt (hOt.out _ e_.symm))));replace HK:=aM (Kept.then_ HK.out hkp (fun k_ e_ => .inl (.inr (.inr (.inr (.inr (.inl e_)))))));replace HW:=aM (Kd.R_reok rfl (Kd.R_kept (Kd.R_tight rfl HW.out) hkp (fun k_ h_ e_=>Deep.Ty_no (l:=[140]) (hWt.out k_ h_.symm) (hOt.out k_ e_.symm) (by decide))) (fun k_ e_=>HW.out.1 k_ e_));replace HD:=aM (Kd.S_kept HD.out hkp (fun k_ h_ e_=>hoo.out.1 k_ h_.1 e_));replace HT:=aM (Kd.S_kept HT.out hkp (fun k_ h_ e_=>Deep.Ty_no (l:=[3]) (hOt.out k_ e_.symm) h_.2 (by decide)));replace HC:=aM (Kd.S_kept HC.out hkp (fun k_ h_ e_=>Deep.Ty_no (l:=[3]) (hOt.out k_ e_.symm) (hCt.out k_ h_.symm) (by decide)));replace HF:=aM (Kd.R_reok rfl (Kd.R_kept (Kd.R_tight rfl HF.out) hkp (fun k_ h_ e_=>hof.out k_ e_.symm h_)) (fun k_ e_=>HF.out.1 k_ e_));replace HO:=aM (Kd.R_reok rfl hs1 (fun k_ e_=>HO.out.1 k_ e_));replace HB:=aM hb;clear hb hkp hs1;have hcz_wz5:=cZ8 BK.out) | ((with_reducible refine gate_callee (f:=25) rfl ?_);refine goesM 25 24 Tryz.func25 #[.agg #[.slice Ao6 l6.length co6,.int .i64 a7],.int .i64 t4] ?_;refine(Xas.calls k (fun k_=>some k_=(Value.slice Ao6 l6.length co6).ownBlock) _ l6 a7 t4 t5 u6 w0 _ HB.out (Kd.R_tight rfl HF.out) A5.out).mono ?_;rintro e wz6 ⟨rfl,hs1,hb,hkp⟩;refine⟨_,rfl,?_⟩;replace BK:=aM (blk_kept BK.out hkp (fun e_=>Nat.not_lt.2 hgw.out (Deep.Ty_lt (hFt.out _ e_.symm))));replace HK:=aM (Kept.then_ HK.out hkp (fun k_ e_ => .inl (.inr (.inr (.inr (.inr (.inr e_)))))));replace HW:=aM (Kd.R_reok rfl (Kd.R_kept (Kd.R_tight rfl HW.out) hkp (fun k_ h_ e_=>Deep.Ty_no (l:=[140]) (hWt.out k_ h_.symm) (hFt.out k_ e_.symm) (by decide))) (fun k_ e_=>HW.out.1 k_ e_));replace HD:=aM (Kd.S_kept HD.out hkp (fun k_ h_ e_=>hoo.out.2 k_ h_.1 e_));replace HT:=aM (Kd.S_kept HT.out hkp (fun k_ h_ e_=>Deep.Ty_no (l:=[3]) (hFt.out k_ e_.symm) h_.2 (by decide)));replace HC:=aM (Kd.S_kept HC.out hkp (fun k_ h_ e_=>Deep.Ty_no (l:=[3]) (hFt.out k_ e_.symm) (hCt.out k_ h_.symm) (by decide)));replace HO:=aM (Kd.R_reok rfl (Kd.R_kept (Kd.R_tight rfl HO.out) hkp (fun k_ h_ e_=>hof.out k_ h_.symm e_)) (fun k_ e_=>HO.out.1 k_ e_));replace HF:=aM (Kd.R_reok rfl hs1 (fun k_ e_=>HF.out.1 k_ e_));replace HB:=aM hb;clear hb hkp hs1))
 go_ret
 exact⟨rE,HW.out,Kd.S_mono HD.out (fun _ hk=>hk.1),Kd.S_mono HT.out (fun _ hk=>hk.1),Kd.S_mono HC.out (fun k hk=>HCo.out k hk.symm),HO.out,HF.out,HB.out,HK.out⟩


end Go.Proofs.YtmljebgideecjaaGreat.P2
