/- A part of the proof of the law FnExactReplay: texts of this seat, merged (words, printed functions of the program, plain lemmas). Conditions: none of its own. -/
import Derived.Test.YtmljebgideecjaaGreatP2kFnExactReplay11
set_option linter.unusedSimpArgs false
set_option linter.unusedVariables false
set_option maxHeartbeats 8000000
set_option maxRecDepth 100000
namespace Go.Proofs.YtmljebgideecjaaGreat.P2
open Go.Proofs.YtmljebgideecjaaGreatZ Go.RowKit Go.Proofs.YtmljebgideecjaaGreatW.PrintWords Go.Proofs.YtmljebgideecjaaGreatW.PrintLast Go.Proofs.YtmljebgideecjaaGreatW.PrintMore
attribute [local go_sem] max2_int min2_int max_two min_two max_three min_three max_four min_four   -- for this text's walks alone
def Xaj.l0:Nat→List (S116)→List (S69)→Int→Option ((List (S69)))
 | 0,_,_,_=>none
 | k+1,x0,x3,x4=>if x4<(x0.length:Int) then (if 0≤x4 then ((Xa6.f ((rd_T116 x0 x4).f0) ((rd_T116 x0 x4).f1) ((rd_T116 x0 x4).f2)).bind fun bt105=>(if x4<(x3.length:Int) then (Xaj.l0 k x0 (x3.set (x4:Int).toNat (⟨bt105.1,bt105.2.1,bt105.2.2⟩:S69)) (wrap64 (x4+1))) else (none))) else (none)) else (some x3)
def Xaj.f (k:Nat) (l0:List (S116)):Option ((List (S69))):=if 0≤(l0.length:Int) then (if ((l0.length:Int):Int).toNat≤11728124029610 then (Xaj.l0 k l0 (List.replicate ((l0.length:Int):Int).toNat z69) 0) else (none)) else (none)
theorem Xaj.calls (k:Nat) (A0:Option Addr) (c0:Nat) (l0:List (S116)) (r:List (S69)) (w:World) (h0:Rw k116 w A0 c0 l0) (H:Xaj.f k l0=some r) :
  Calls Tryz.prog 66 #[.slice A0 l0.length c0] w fun e w'=>∃ v0_:Value,e = .returned (v0_)∧Kd.R k69 69 w' w.heap.size (fun _=>True) v0_ r∧Below w.heap.size w w':=by
 have hu116:=Tryz.underlying116
 have hu69:=Tryz.underlying69
 obtain⟨HR0,HC0⟩:=h0
 have HB:=aM (Below.refl w.heap.size w)
 unfold Xaj.f at H
 replace H:=ifP H;obtain⟨c2,H⟩:=H
 have c2b0:=eq_true c2
 have c2b1:=decide_eq_true c2
 clear c2
 replace H:=ifP H;obtain⟨c3,H⟩:=H
 have c3b0:=eq_true c3
 have c3b1:=decide_eq_true c3
 clear c3
 obtain⟨y101,hy101⟩:∃ y_:List (S69),y_=(List.replicate ((l0.length:Int):Int).toNat z69):=⟨_,rfl⟩
 replace H:(Xaj.l0 k l0 y101 0)=some r:=yH H hy101
 have Ny101:=aM hy101
 clear hy101
 have H':=aM H
 clear H
 go_enter Tryz.func66,Tryz.ntmps66
 go_wp2_with ((with_reducible refine gate_dst (N:=7) rfl ?_);refine Kd.R_make k69 _ 69 rfl (N:=7) rfl 93 _ _ rfl (l0.length:Int) rfl rfl Tryz.underlying93 (.agg #[(.int .i64 0),(.int .i64 0),(.int .i64 0)]) 24 info69 rfl (by decide) (by omega) z69 (ok:=fun _=>True) (okp:=fun _=>True) (k69_mkM _ _ _ z69 ) (fun _ hk=>hk) trivial (odA) (Nat.le_trans (Nat.mul_le_mul_right _ (odA:(l0.length:Int).toNat≤11728124029610)) (by omega)) (Below.refl _ _) (Nat.le_refl _) ?_;intro vz1 wz1 hoz1 hb hg_ hnew_;clear hg_ hnew_;(first | rw[← Ny101.out] at hoz1 | (simp only[Int.reduceToNat] at hoz1;rw[← Ny101.out] at hoz1));have HOz1:=aM (Kd.R_lower hoz1 (below_size (hX HB.out)));replace HB:=aS HB hb;clear hb hoz1)
 go_loopg [4] k (fun kq v4 w'=>∃ (x3_1:List (S69)) (x4_1:Int),v4 = .int .i64 x4_1∧Aside0 (Xaj.l0 kq l0 x3_1 x4_1=some r)∧Aside0 (kq≤k)∧Aside0 (Kd.R k69 69 w' w.heap.size (fun _=>True) vz1 x3_1)∧Aside0 (Below w.heap.size w w'))
 case atStart=>exact⟨(y101),(0),rS,H',⟨Nat.le_refl _⟩,⟨(rX HOz1.out)⟩,⟨(hX HB.out)⟩⟩
 case round =>
  clear H'
  try clear c2
  try clear c2b0
  try clear c2b1
  try clear c3
  try clear c3b0
  try clear c3b1
  obtain⟨x3_1,x4_1,rfl,HA,HKy1,HO_y1,HB⟩:=hrel
  cases gk with
  | zero=>exact absurd HA.out (by simp[Xaj.l0])
  | succ k1 =>
   have H:=HA.out
   clear HA
   simp only[Xaj.l0] at H
   revert H;refine iN ?_ ?_<;>intro c6b0 H
   ·obtain rfl:=sI H
    go_wp2
    go_ret
    exact⟨_,rE,(rX HO_y1.out),(hX HB.out)⟩
   replace H:=ifQ H;obtain⟨c7b0,H⟩:=H
   replace H:=bE H;obtain⟨⟨t105,t106,t107⟩,A8,H⟩:=H
   try dsimp only at H
   replace H:=ifQ H;obtain⟨c9b0,H⟩:=H
   obtain⟨y108,hy108⟩:∃ y_:List (S69),y_=(x3_1.set (x4_1:Int).toNat (⟨t105,t106,t107⟩:S69)):=⟨_,rfl⟩
   replace H:(Xaj.l0 k1 l0 y108 (wrap64 (x4_1+1)))=some r:=yH H hy108
   have Ny108:=aM hy108
   clear hy108
   have H':=aM H
   clear H
   obtain⟨adx1,ex1,px1,qx1,hxx1⟩:=at_T116c HR0 HB x4_1
   cases ex1
   go_wp2_with (first | (refine gB 126 20 Tryz.func126 (Xa6.calls _ _ _ _ _ _ _ A8.out) ?_;intro wx1 hb;replace HO_y1:=aQ HO_y1 hb;replace HB:=aS HB hb;clear hb;have px2:0≤(x4_1:Int):=odA;have qx2:(x4_1:Int)<((x3_1.length:Int):Int):=odA;obtain⟨gox1,cox1,eox1,gbx1,glx1,clx1,HGx1⟩:=Kd.R_form HO_y1.out (by omega);(first | cases eox1 | (injection eox1 with ea_ en_ ec_;(first | subst ea_ | (injection ea_ with ea_;subst ea_));subst ec_;clear en_));have GBx1:=aM gbx1;have GGx1:=aM HGx1;clear gbx1 glx1 HGx1;obtain⟨cex1,hclx1,hMx1,hccx1,hfrx1⟩:=Kd.R_elem HO_y1.out z69 (x4_1:Int) px2 qx2;obtain rfl:=k69_openM hMx1;have hxx4:wx1.cell? ⟨gox1,(x4_1:Int).toNat * 3,none⟩=some (.int .i64 ((rd_T69 x3_1 x4_1).f0)):=hccx1 0 _ rfl;have hxx5:wx1.cell? ⟨gox1,(x4_1:Int).toNat * 3+1,none⟩=some (.int .i64 ((rd_T69 x3_1 x4_1).f1)):=hccx1 1 _ rfl;have hxx6:wx1.cell? ⟨gox1,(x4_1:Int).toNat * 3+2,none⟩=some (.int .i64 ((rd_T69 x3_1 x4_1).f2)):=hccx1 2 _ rfl;have hfx1:wx1.frozen? ⟨gox1,(x4_1:Int).toNat * 3,none⟩=false:=hfrx1 0;have hfx2:wx1.frozen? ⟨gox1,(x4_1:Int).toNat * 3+1,none⟩=false:=hfrx1 1;have hfx3:wx1.frozen? ⟨gox1,(x4_1:Int).toNat * 3+2,none⟩=false:=hfrx1 2;clear hclx1 hccx1 hfrx1 hMx1;replace px2:=eq_true px2;replace qx2:=eq_true qx2;have HXx1:=aM (show Kd.R k69 69 wx1 w.heap.size (fun _=>True) (.slice (some ⟨gox1,0,none⟩) x3_1.length cox1) x3_1 from (rX HO_y1.out));obtain⟨cex2,hclx2,hMx2,hccx2,hfrx2⟩:=Kd.R_elem HXx1.out z69 (x4_1:Int) (odA) (by have h_:(x4_1:Int)<((x3_1.length:Int):Int):=odA;first | exact h_ | (have e_:=(Kd.R_reads' HO_y1.out).1;omega) | simpa using h_);obtain rfl:=k69_openM hMx2;have HPx1:=Kd.R_seg HXx1.out (x4_1:Int) (odA) (by have h_:(x4_1:Int)<((x3_1.length:Int):Int):=odA;first | exact h_ | (have e_:=(Kd.R_reads' HO_y1.out).1;omega) | simpa using h_) (seg:=[.int .i64 t105,.int .i64 t106,.int .i64 t107]) (j:=0) hclx2 hccx2 (show 3≤3 from by decide) (x':=(⟨t105,t106,t107⟩:S69)) (k69_mkM _ _ _ (⟨t105,t106,t107⟩:S69) ) (fun _ hk=>hk);have hxx7:=hccx2 0 _ rfl;(try simp only[show (k69).sz=3 from rfl,Nat.mul_one,Nat.add_zero] at hxx7);have hfx4:=hfrx2 0;(try simp only[show (k69).sz=3 from rfl,Nat.mul_one,Nat.add_zero] at hfx4);have hxx8:=hccx2 1 _ rfl;(try simp only[show (k69).sz=3 from rfl,Nat.mul_one,Nat.add_zero] at hxx8);have hfx5:=hfrx2 1;(try simp only[show (k69).sz=3 from rfl,Nat.mul_one,Nat.add_zero] at hfx5);have hxx9:=hccx2 2 _ rfl;(try simp only[show (k69).sz=3 from rfl,Nat.mul_one,Nat.add_zero] at hxx9);have hfx6:=hfrx2 2;(try simp only[show (k69).sz=3 from rfl,Nat.mul_one,Nat.add_zero] at hfx6);clear hclx2 hccx2 hfrx2 hMx2) | ((with_reducible refine gate_store (t:=69) (p:=21) rfl ?_);refine store_event (t:=69) (p:=21) (v:=?vo_wx2) (w1:=(((wx1.setCell ⟨gox1,(x4_1:Int).toNat * 3,none⟩ (.int .i64 t105)).setCell ⟨gox1,(x4_1:Int).toNat * 3+1,none⟩ (.int .i64 t106)).setCell ⟨gox1,(x4_1:Int).toNat * 3+2,none⟩ (.int .i64 t107))) ?hg ?ho ?hn ?hr ?_;(case ho=>rfl);(case hg=>rfl);(case hn=>rfl);(case hr=>first | (go_simp;done) | (go_simp;rfl));intro wx2 hw;have hg:wx1.grownBy wx2 (some gox1):=(by rw[hw];exact HPx1.2);have hp_:Kd.R k69 69 wx2 w.heap.size (fun _=>True) (.slice (some ⟨gox1,0,none⟩) x3_1.length cox1) y108:=(by rw[hw,Ny108.out];exact HPx1.1);clear HPx1;replace HO_y1:=aM (hp_);replace HB:=aM ((by rw[hw];exact below_set (below_set (below_set (HB.out) GBx1.out) GBx1.out) GBx1.out:Below w.heap.size w wx2));clear hg hw hp_))
   go_roundg k1
   case measure=>have:=HKy1.out;omega
   case rel=>exact⟨(y108),(wrap64 (x4_1+1)),rS,H',⟨by have:=HKy1.out;omega⟩,⟨(rX HO_y1.out)⟩,⟨(hX HB.out)⟩⟩
def XaG.f (k:Nat) (l0_0:List Int) (a0_1:Int) (a1:Int):Option (Int × List Int):=(XX.f k l0_0 a1).bind fun bt102=>(some (bt102.1,bt102.2))
theorem XaG.calls (k:Nat) (P0_0_:Nat→Prop) (u9000_:Value) (l0_0:List Int) (a0_1:Int) (a1:Int) (r1:Int) (r2:List Int) (w0 w:World) (hB:Below w0.heap.size w0 w) (ho0_0:Kd.R (Kd.int .i64) 3 w w0.heap.size P0_0_ u9000_ l0_0) (H:XaG.f k l0_0 a0_1 a1=some (r1,r2)) :
  Calls Tryz.prog 25 #[.agg #[u9000_,.int .i64 a0_1],.int .i64 a1] w fun e w'=>e = .returned (.int .i64 r1)∧Kd.R (Kd.int .i64) 3 w' w0.heap.size (fun k_=>(P0_0_ k_ ∨ w.heap.size≤k_)) u9000_ r2∧Below w0.heap.size w0 w'∧Kept w w' (fun k_=>P0_0_ k_):=by
 have hu41:=Tryz.underlying41
 have HO0_0:=aM (show Kd.R (Kd.int .i64) 3 w w0.heap.size (fun k_=>(P0_0_ k_ ∨ w.heap.size≤k_)) u9000_ l0_0 from Kd.R_mono ho0_0 (fun k_ hk=>(.inl hk)))
 have HK:=aM (Kept.refl w (fun k_=>P0_0_ k_))
 have HW0:=aM hB.size
 have HB:=aM hB
 clear hB
 unfold XaG.f at H
 replace H:=bE H;obtain⟨⟨t102,t103⟩,A3,H⟩:=H
 try dsimp only at H
 simp only[Option.some.injEq,Prod.mk.injEq] at H
 obtain⟨rfl,rfl⟩:=H
 obtain⟨Aoz1,coz1,eoz1⟩:=Kd.R_slice HO0_0.out
 subst eoz1
 go_enter Tryz.func25,Tryz.ntmps25
 go_wp2_with (first | (refine boxE 2 #[.slice Aoz1 l0_0.length coz1,.int .i64 a0_1] 41 ?_;intro gbz1 hg wz1 hbox hb;have BKz1:=aM (hbox);have GWz1:=aM ((by rw[hg];exact(by first | exact HK.out.1 | exact(show Kept w _ (fun k_=>P0_0_ k_) from by repeat (first | (with_reducible first | exact HK.out | apply Kept.alloc | apply Kept.drewN | apply Kept.drew) | exact HK.out)).1):w.heap.size≤gbz1));have GEz1:=aG hg HB;replace HO0_0:=aQ HO0_0 hb;replace HK:=aM (Kept.below (S:=(fun k_=>P0_0_ k_)) (by repeat (first | (with_reducible first | exact HK.out | apply Kept.alloc | apply Kept.drewN | apply Kept.drew) | exact HK.out)) hb);replace HB:=aS HB hb;clear hb hbox hg;have hczz1:=cZ2 BKz1.out) | (refine goesM 71 8 Tryz.func71 #[.slice Aoz1 l0_0.length coz1,.int .i64 a1] ?_;refine(XX.calls k (fun k_=>some k_=(.slice Aoz1 l0_0.length coz1:Value).ownBlock) (.slice Aoz1 l0_0.length coz1) l0_0 a1 t102 t103 w0 _ (by repeat (first | (with_reducible first | exact HB.out | apply below_alloc | apply pw_below_drewN | apply below_drew1 | refine below_set ?_ GEz1.out) | exact HB.out)) (by exact Kd.R_tight rfl HO0_0.out) A3.out).mono ?_;rintro e wz2 ⟨rfl,hyz1,hb,hkp⟩;refine⟨_,rfl,?_⟩;replace BKz1:=aM (blk_kept (bX BKz1.out) hkp (fun hs_=>(fun e_=>(Kd.R_ne HO0_0.out BKz1.out (by decide)) e_) hs_));replace HK:=aM (Kept.then_ (S:=(fun k_=>P0_0_ k_)) (by repeat (first | (with_reducible first | exact HK.out | apply Kept.alloc | apply Kept.drewN | apply Kept.drew | refine Kept.setCell ?_ (.inr GWz1.out) _) | exact HK.out)) hkp (fun k_ hs_=>(fun e_=>(HO0_0.out.1 k_ e_.symm)) hs_));replace HO0_0:=aM (Kd.R_reok rfl hyz1 (fun k_ e_=>HO0_0.out.1 k_ e_));replace HB:=aM (hb);clear hb hkp hyz1))
 go_ret
 exact⟨rE,(rX HO0_0.out),(hX HB.out),by repeat (first | (with_reducible first | exact HK.out | apply Kept.alloc | apply Kept.drewN | apply Kept.drew | refine Kept.setCell ?_ (.inr GWz1.out) _) | exact HK.out)⟩
def Xap.l0:Nat→List (S162)→Int→Int→Option (Int × (List (S162)))
 | 0,_,_,_=>none
 | k+1,x0,x1,x5=>if x5<(x0.length:Int) then (if 0≤x5 then ((Xal.f k (rd_T162 x0 x5).f2 (wrap64 ((wrap64 (x1+1))+1))).bind fun t1=>((XX.f k (rd_T162 x0 x5).f3.f1 (wrap64 (t1.1+1))).bind fun t2=>(Xap.l0 k (x0.set (x5:Int).toNat (⟨x1,wrap64 (x1+1),t1.2,⟨t1.1,t2.2⟩⟩:S162)) t2.1 (wrap64 (x5+1))))) else (none)) else (some (x1,x0))
def Xap.f (k:Nat) (l0:List (S162)) (a1:Int):Option (Int × (List (S162))):=Xap.l0 k l0 a1 0
theorem Xap.calls (k:Nat) (P0_:Nat→Prop) (u9000_:Value) (l0:List (S162)) (a1:Int) (r1:Int) (r2:List (S162)) (w0 w:World) (hB:Below w0.heap.size w0 w) (ho0:Kd.S k162 162 w w0.heap.size P0_ u9000_ l0) (h:Xap.f k l0 a1=some (r1,r2)) :
  Calls Tryz.prog 130 #[u9000_,.int .i64 a1] w fun e w'=>e = .returned (.int .i64 r1)∧Kd.S k162 162 w' w0.heap.size P0_ u9000_ r2∧Below w0.heap.size w0 w'∧Kept w w' (fun k_=>P0_ k_):=by
 have HO0:=Aside0.mk ho0
 have HK:=aM (Kept.refl w (fun k_=>P0_ k_))
 have HB:=Aside0.mk hB
 clear hB ho0
 have H':=aM (show Xap.l0 k l0 a1 0=some (r1,r2) from h)
 clear h
 go_enter Tryz.func130,Tryz.ntmps130
 go_wp2
 go_loopg [1,5] k (fun kq v1 v5 w'=>∃ (x0:List (S162)) (x1:Int) (x5:Int),v1 = .int .i64 x1∧v5 = .int .i64 x5∧Aside0 (Xap.l0 kq x0 x1 x5=some (r1,r2))∧Aside0 (kq≤k)∧Aside0 (Kd.S k162 162 w' w0.heap.size P0_ u9000_ x0)∧Aside0 (Kept w w' (fun k_=>P0_ k_))∧Aside0 (Below w0.heap.size w0 w'))
 case atStart=>exact⟨l0,a1,0,(by first | rfl | (simp;done) | (simp[*];done)),(by first | rfl | (simp;done) | (simp[*];done)),H',⟨Nat.le_refl _⟩,HO0,HK,HB⟩
 case round =>
  clear H'
  try clear p2
  obtain⟨x0,x1,x5,rfl,rfl,HA,HK1,HO,HK,HB⟩:=hrel
  cases gk with
  | zero=>exact absurd HA.out (by simp[Xap.l0])
  | succ k1 =>
   have H:=HA.out
   clear HA
   simp only[Xap.l0] at H
   by_cases c3:x5<(x0.length:Int)
   ·rw[if_pos c3] at H
    have hq0:=Aside0.mk c3
    have c3b0:decide (x5<(x0.length:Int))=true:=decide_eq_true c3
    by_cases c4:0≤x5
    ·rw[if_pos c4] at H
     have hp0:=Aside0.mk c4
     have c4b0:decide (0≤x5)=true:=decide_eq_true c4
     obtain⟨t1,At1,H⟩:=Option.bind_eq_some_iff.mp H
     replace At1:=Aside0.mk At1
     obtain⟨t2,At2,H⟩:=Option.bind_eq_some_iff.mp H
     replace At2:=Aside0.mk At2
     have H':=Aside0.mk H
     clear H
     obtain⟨go,co,eo,gb,gl,cl,HG⟩:=Kd.S_form HO.out (by omega)
     subst eo
     have GB:=Aside0.mk gb
     clear gb gl HG
     have HM:=aM (show P0_ go from ((Kd.S_R HO.out).1 _ rfl))
     obtain⟨oki,ce,hcl,hM,hcc,hfr,hoki,hH⟩:=Kd.S_elem HO.out z162 x5 c4 c3
     obtain⟨vr2,vr4,rfl,hL2,hL4⟩:=k162_openM hM
     have hok:=Aside0.mk hoki
     have HH:=Aside0.mk hH
     have HL2:=aM (show Kd.R k165 165 wr w0.heap.size oki vr2 (rd_T162 x0 x5).f2 from hL2)
     have HL4:=aM (show Kd.R (Kd.int .i64) 3 wr w0.heap.size oki vr4 (rd_T162 x0 x5).f3.f1 from hL4)
     have hx0:wr.cell? ⟨go,x5.toNat * 5,none⟩=some (.int .i64 (rd_T162 x0 x5).f0):=(Deep.H_facts HH.out hp0.out hq0.out).1 0 _ rfl
     have hz0:wr.frozen? ⟨go,x5.toNat * 5,none⟩=false:=(Deep.H_facts HH.out hp0.out hq0.out).2 0
     clear hcl hM hcc hfr hoki hH hL2 hL4
     clear HO
     replace c3:=eq_true c3
     replace c4:=eq_true c4
     go_wp2_with (first | ((with_reducible refine gate_store (t:=3) (p:=16) rfl ?_);refine store_event (t:=3) (p:=16) (v:=?vo_wz1) (w1:=(wr.setCell ⟨go,x5.toNat * 5,none⟩ (.int .i64 x1))) ?hg ?ho ?hn ?hr ?_;(case ho=>rfl);(case hg=>rfl);(case hn=>rfl);(case hr=>first | (go_simp;done) | (go_simp;rfl));intro wz1 hw;have hp_:=Deep.H_put HH.out hp0.out hq0.out 0 (.int .i64 x1) (by decide) rfl;have hg:wr.grownBy wz1 (some go):=(by rw[hw];exact hp_.2);have n0_:=aM (show Kd.H k162 162 wz1 w0.heap.size P0_ (.slice (some ⟨go,0,none⟩) x0.length co) x0 x5 oki [.int .i64 x1,.int .i64 (rd_T162 x0 x5).f1,vr2,.int .i64 (rd_T162 x0 x5).f3.f0,vr4] from by rw[hw];exact hp_.1);have n1_:=aM (show Below w0.heap.size w0 wz1 from by rw[hw];exact below_set HB.out GB.out);have n2_:=aM (Kept.of_grown (S:=(fun k_=>P0_ k_)) hg HK.out (fun k_ e_ => .inl ((Option.some.inj e_) ▸ HM.out)));replace HL2:=aM (Kd.R_grown HL2.out hg (fun k_ hk_ e_=>(hok.out k_ hk_).2 (Option.some.inj e_)));replace HL4:=aM (Kd.R_grown HL4.out hg (fun k_ hk_ e_=>(hok.out k_ hk_).2 (Option.some.inj e_)));clear HH HB HK hp_ hg hw;have HH:=n0_;have HB:=n1_;have HK:=n2_;clear n0_ n1_ n2_;have hx1:wz1.cell? ⟨go,x5.toNat * 5+1,none⟩=some (.int .i64 (rd_T162 x0 x5).f1):=(Deep.H_facts HH.out hp0.out hq0.out).1 1 _ rfl;have hz1:wz1.frozen? ⟨go,x5.toNat * 5+1,none⟩=false:=(Deep.H_facts HH.out hp0.out hq0.out).2 1) | ((with_reducible refine gate_store (t:=3) (p:=23) rfl ?_);refine store_event (t:=3) (p:=23) (v:=?vo_wz2) (w1:=(wz1.setCell ⟨go,x5.toNat * 5+1,none⟩ (.int .i64 (wrap64 (x1+1))))) ?hg ?ho ?hn ?hr ?_;(case ho=>rfl);(case hg=>rfl);(case hn=>rfl);(case hr=>first | (go_simp;done) | (go_simp;rfl));intro wz2 hw;have hp_:=Deep.H_put HH.out hp0.out hq0.out 1 (.int .i64 (wrap64 (x1+1))) (by decide) rfl;have hg:wz1.grownBy wz2 (some go):=(by rw[hw];exact hp_.2);have n0_:=aM (show Kd.H k162 162 wz2 w0.heap.size P0_ (.slice (some ⟨go,0,none⟩) x0.length co) x0 x5 oki [.int .i64 x1,.int .i64 (wrap64 (x1+1)),vr2,.int .i64 (rd_T162 x0 x5).f3.f0,vr4] from by rw[hw];exact hp_.1);have n1_:=aM (show Below w0.heap.size w0 wz2 from by rw[hw];exact below_set HB.out GB.out);have n2_:=aM (Kept.of_grown (S:=(fun k_=>P0_ k_)) hg HK.out (fun k_ e_ => .inl ((Option.some.inj e_) ▸ HM.out)));replace HL2:=aM (Kd.R_grown HL2.out hg (fun k_ hk_ e_=>(hok.out k_ hk_).2 (Option.some.inj e_)));replace HL4:=aM (Kd.R_grown HL4.out hg (fun k_ hk_ e_=>(hok.out k_ hk_).2 (Option.some.inj e_)));clear HH HB HK hp_ hg hw;have HH:=n0_;have HB:=n1_;have HK:=n2_;clear n0_ n1_ n2_;have hx2:wz2.cell? ⟨go,x5.toNat * 5+2,none⟩=some (vr2):=(Deep.H_facts HH.out hp0.out hq0.out).1 2 _ rfl) | ((with_reducible refine gate_callee (f:=196) rfl ?_);refine goesL_ (some 32) rfl rfl Tryz.func196 (by kernel_rfl) rfl #[vr2,.int .i64 (wrap64 ((wrap64 (x1+1))+1))] rfl (by (try simp only[List.map_toArray,List.map_cons,List.map_nil]);first | done | rfl | (simp only[List.length_drop,List.length_take];rfl)) ?_;(with_reducible refine(Xal.calls k1 (fun k_=>some k_=(vr2:Value).ownBlock) vr2 ((rd_T162 x0 x5).f2) (wrap64 ((wrap64 (x1+1))+1)) t1.1 t1.2 w0 _ HB.out (Kd.R_tight rfl HL2.out) At1.out).mono ?_);rintro e wz3 ⟨rfl,hy0,hb,hkp⟩;refine⟨_,rfl,?_⟩;have n0_:=aM (Kd.H_kept HH.out hkp (fun k_ _ hn_ e_=>hn_ (HL2.out.1 k_ e_.symm)));have n2_:=aM (Kept.then_ (S:=(fun k_=>P0_ k_)) HK.out hkp (fun k_ e_ => .inl (hok.out k_ (HL2.out.1 k_ e_.symm)).1));replace HL4:=aM (Deep.R_other HL4.out rfl HL2.out (by decide) hkp);replace HL2:=aM (Kd.R_reok rfl hy0 (fun k_ e_=>HL2.out.1 k_ e_));clear HH HB HK hkp hy0;have HH:=n0_;have HB:=Aside0.mk hb;have HK:=n2_;clear n0_ n2_ hb;have hx3:wz3.cell? ⟨go,x5.toNat * 5+3,none⟩=some (.int .i64 (rd_T162 x0 x5).f3.f0):=(Deep.H_facts HH.out hp0.out hq0.out).1 3 _ rfl;have hz3:wz3.frozen? ⟨go,x5.toNat * 5+3,none⟩=false:=(Deep.H_facts HH.out hp0.out hq0.out).2 3) | ((with_reducible refine gate_store (t:=3) (p:=38) rfl ?_);refine store_event (t:=3) (p:=38) (v:=?vo_wz4) (w1:=(wz3.setCell ⟨go,x5.toNat * 5+3,none⟩ (.int .i64 t1.1))) ?hg ?ho ?hn ?hr ?_;(case ho=>rfl);(case hg=>rfl);(case hn=>rfl);(case hr=>first | (go_simp;done) | (go_simp;rfl));intro wz4 hw;have hp_:=Deep.H_put HH.out hp0.out hq0.out 3 (.int .i64 t1.1) (by decide) rfl;have hg:wz3.grownBy wz4 (some go):=(by rw[hw];exact hp_.2);have n0_:=aM (show Kd.H k162 162 wz4 w0.heap.size P0_ (.slice (some ⟨go,0,none⟩) x0.length co) x0 x5 oki [.int .i64 x1,.int .i64 (wrap64 (x1+1)),vr2,.int .i64 t1.1,vr4] from by rw[hw];exact hp_.1);have n1_:=aM (show Below w0.heap.size w0 wz4 from by rw[hw];exact below_set HB.out GB.out);have n2_:=aM (Kept.of_grown (S:=(fun k_=>P0_ k_)) hg HK.out (fun k_ e_ => .inl ((Option.some.inj e_) ▸ HM.out)));replace HL2:=aM (Kd.R_grown HL2.out hg (fun k_ hk_ e_=>(hok.out k_ hk_).2 (Option.some.inj e_)));replace HL4:=aM (Kd.R_grown HL4.out hg (fun k_ hk_ e_=>(hok.out k_ hk_).2 (Option.some.inj e_)));clear HH HB HK hp_ hg hw;have HH:=n0_;have HB:=n1_;have HK:=n2_;clear n0_ n1_ n2_;have hx4:wz4.cell? ⟨go,x5.toNat * 5+4,none⟩=some (vr4):=(Deep.H_facts HH.out hp0.out hq0.out).1 4 _ rfl) | ((with_reducible refine gate_callee (f:=71) rfl ?_);refine goesL_ (some 48) rfl rfl Tryz.func71 (by kernel_rfl) rfl #[vr4,.int .i64 (wrap64 (t1.1+1))] rfl (by (try simp only[List.map_toArray,List.map_cons,List.map_nil]);first | done | rfl | (simp only[List.length_drop,List.length_take];rfl)) ?_;(with_reducible refine(XX.calls k1 (fun k_=>some k_=(vr4:Value).ownBlock) vr4 ((rd_T162 x0 x5).f3.f1) (wrap64 (t1.1+1)) t2.1 t2.2 w0 _ HB.out (Kd.R_tight rfl HL4.out) At2.out).mono ?_);rintro e wz5 ⟨rfl,hy0,hb,hkp⟩;refine⟨_,rfl,?_⟩;have n0_:=aM (Kd.H_kept HH.out hkp (fun k_ _ hn_ e_=>hn_ (HL4.out.1 k_ e_.symm)));have n2_:=aM (Kept.then_ (S:=(fun k_=>P0_ k_)) HK.out hkp (fun k_ e_ => .inl (hok.out k_ (HL4.out.1 k_ e_.symm)).1));replace HL2:=aM (Deep.R_other HL2.out rfl HL4.out (by decide) hkp);replace HL4:=aM (Kd.R_reok rfl hy0 (fun k_ e_=>HL4.out.1 k_ e_));clear HH HB HK hkp hy0;have HH:=n0_;have HB:=Aside0.mk hb;have HK:=n2_;clear n0_ n2_ hb))
     go_roundg k1
     case measure=>have:=HK1.out;omega
     case rel=>exact⟨(x0.set (x5:Int).toNat (⟨x1,wrap64 (x1+1),t1.2,⟨t1.1,t2.2⟩⟩:S162)),t2.1,(wrap64 (x5+1)),(by first | rfl | (simp;done) | (simp[*];done)),(by first | rfl | (simp;done) | (simp[*];done)),H',⟨by have:=HK1.out;omega⟩,⟨Kd.H_back HH.out (k162_mkM _ _ _ (⟨x1,wrap64 (x1+1),t1.2,⟨t1.1,t2.2⟩⟩:S162) HL2.out HL4.out) (fun _ hk_=>hk_)⟩,HK,HB⟩
    ·rw[if_neg c4] at H
     exact absurd H (by simp)
   ·rw[if_neg c3] at H
    have c3b0:decide (x5<(x0.length:Int))=false:=decide_eq_false c3
    clear c3
    simp only[Option.some.injEq,Prod.mk.injEq] at H
    obtain⟨rfl,rfl⟩:=H
    obtain⟨Ao,co,eo⟩:=Kd.S_slice HO.out
    subst eo
    go_wp2
    go_ret
    exact⟨by first | rfl | (simp[errW_none,errW_some]<;>rfl),HO.out,HB.out,HK.out⟩
def Xag.l0:Nat→List (S97)→Int→Int→Option (Int × (List (S97)))
 | 0,_,_,_=>none
 | k+1,x0,x1,x5=>if x5<(x0.length:Int) then (if 0≤x5 then ((Xax.f k (rd_T97 x0 x5).f0 x1).bind fun t1=>((Xan.f k (rd_T97 x0 x5).f3 (wrap64 ((wrap64 (t1.1+1))+1))).bind fun t2=>((Xao.f k (rd_T97 x0 x5).f4 t2.1).bind fun t3=>(Xag.l0 k (x0.set (x5:Int).toNat (⟨t1.2,t1.1,(decide (Int.tmod (wrap64 (t1.1+1)) 3=0)),t2.2,t3.2⟩:S97)) t3.1 (wrap64 (x5+1)))))) else (none)) else (some (x1,x0))
def Xag.f (k:Nat) (l0:List (S97)) (a1:Int):Option (Int × (List (S97))):=Xag.l0 k l0 a1 0
theorem Xag.calls (k:Nat) (P0_:Nat→Prop) (u9000_:Value) (l0:List (S97)) (a1:Int) (r1:Int) (r2:List (S97)) (w0 w:World) (hB:Below w0.heap.size w0 w) (ho0:Kd.S k97 97 w w0.heap.size P0_ u9000_ l0) (h:Xag.f k l0 a1=some (r1,r2)) :
  Calls Tryz.prog 74 #[u9000_,.int .i64 a1] w fun e w'=>e = .returned (.int .i64 r1)∧Kd.S k97 97 w' w0.heap.size P0_ u9000_ r2∧Below w0.heap.size w0 w'∧Kept w w' (fun k_=>P0_ k_):=by
 have HO0:=Aside0.mk ho0
 have HK:=aM (Kept.refl w (fun k_=>P0_ k_))
 have HB:=Aside0.mk hB
 clear hB ho0
 have H':=aM (show Xag.l0 k l0 a1 0=some (r1,r2) from h)
 clear h
 go_enter Tryz.func74,Tryz.ntmps74
 go_wp2
 go_loopg [1,5] k (fun kq v1 v5 w'=>∃ (x0:List (S97)) (x1:Int) (x5:Int),v1 = .int .i64 x1∧v5 = .int .i64 x5∧Aside0 (Xag.l0 kq x0 x1 x5=some (r1,r2))∧Aside0 (kq≤k)∧Aside0 (Kd.S k97 97 w' w0.heap.size P0_ u9000_ x0)∧Aside0 (Kept w w' (fun k_=>P0_ k_))∧Aside0 (Below w0.heap.size w0 w'))
 case atStart=>exact⟨l0,a1,0,(by first | rfl | (simp;done) | (simp[*];done)),(by first | rfl | (simp;done) | (simp[*];done)),H',⟨Nat.le_refl _⟩,HO0,HK,HB⟩
 case round =>
  clear H'
  try clear p2
  obtain⟨x0,x1,x5,rfl,rfl,HA,HK1,HO,HK,HB⟩:=hrel
  cases gk with
  | zero=>exact absurd HA.out (by simp[Xag.l0])
  | succ k1 =>
   have H:=HA.out
   clear HA
   simp only[Xag.l0] at H
   by_cases c3:x5<(x0.length:Int)
   ·rw[if_pos c3] at H
    have hq0:=Aside0.mk c3
    have c3b0:decide (x5<(x0.length:Int))=true:=decide_eq_true c3
    by_cases c4:0≤x5
    ·rw[if_pos c4] at H
     have hp0:=Aside0.mk c4
     have c4b0:decide (0≤x5)=true:=decide_eq_true c4
     obtain⟨t1,At1,H⟩:=Option.bind_eq_some_iff.mp H
     replace At1:=Aside0.mk At1
     obtain⟨t2,At2,H⟩:=Option.bind_eq_some_iff.mp H
     replace At2:=Aside0.mk At2
     obtain⟨t3,At3,H⟩:=Option.bind_eq_some_iff.mp H
     replace At3:=Aside0.mk At3
     have H':=Aside0.mk H
     clear H
     obtain⟨go,co,eo,gb,gl,cl,HG⟩:=Kd.S_form HO.out (by omega)
     subst eo
     have GB:=Aside0.mk gb
     clear gb gl HG
     have HM:=aM (show P0_ go from ((Kd.S_R HO.out).1 _ rfl))
     obtain⟨oki,ce,hcl,hM,hcc,hfr,hoki,hH⟩:=Kd.S_elem HO.out z97 x5 c4 c3
     obtain⟨vr0,vr3,vr4,rfl,hL0,hL3,hL4⟩:=k97_openM hM
     have hok:=Aside0.mk hoki
     have HH:=Aside0.mk hH
     have HL0:=aM (show Kd.R k69 69 wr w0.heap.size oki vr0 (rd_T97 x0 x5).f0 from hL0)
     have HL3:=aM (show Kd.R k172 172 wr w0.heap.size oki vr3 (rd_T97 x0 x5).f3 from hL3)
     have HL4:=aM (show Kd.R k174 174 wr w0.heap.size oki vr4 (rd_T97 x0 x5).f4 from hL4)
     have hx0:wr.cell? ⟨go,x5.toNat * 5,none⟩=some (vr0):=(Deep.H_facts HH.out hp0.out hq0.out).1 0 _ rfl
     clear hcl hM hcc hfr hoki hH hL0 hL3 hL4
     clear HO
     replace c3:=eq_true c3
     replace c4:=eq_true c4
     go_wp2_with (first | ((with_reducible refine gate_callee (f:=72) rfl ?_);refine goesL_ (some 18) rfl rfl Tryz.func72 (by kernel_rfl) rfl #[vr0,.int .i64 x1] rfl (by (try simp only[List.map_toArray,List.map_cons,List.map_nil]);first | done | rfl | (simp only[List.length_drop,List.length_take];rfl)) ?_;(with_reducible refine(Xax.calls k1 (fun k_=>some k_=(vr0:Value).ownBlock) vr0 ((rd_T97 x0 x5).f0) x1 t1.1 t1.2 w0 _ HB.out (Kd.R_tight rfl HL0.out) At1.out).mono ?_);rintro e wz1 ⟨rfl,hy0,hb,hkp⟩;refine⟨_,rfl,?_⟩;have n0_:=aM (Kd.H_kept HH.out hkp (fun k_ _ hn_ e_=>hn_ (HL0.out.1 k_ e_.symm)));have n2_:=aM (Kept.then_ (S:=(fun k_=>P0_ k_)) HK.out hkp (fun k_ e_ => .inl (hok.out k_ (HL0.out.1 k_ e_.symm)).1));replace HL3:=aM (Deep.R_other HL3.out rfl HL0.out (by decide) hkp);replace HL4:=aM (Deep.R_other HL4.out rfl HL0.out (by decide) hkp);replace HL0:=aM (Kd.R_reok rfl hy0 (fun k_ e_=>HL0.out.1 k_ e_));clear HH HB HK hkp hy0;have HH:=n0_;have HB:=Aside0.mk hb;have HK:=n2_;clear n0_ n2_ hb;have hx1:wz1.cell? ⟨go,x5.toNat * 5+1,none⟩=some (.int .i64 (rd_T97 x0 x5).f1):=(Deep.H_facts HH.out hp0.out hq0.out).1 1 _ rfl;have hz1:wz1.frozen? ⟨go,x5.toNat * 5+1,none⟩=false:=(Deep.H_facts HH.out hp0.out hq0.out).2 1) | ((with_reducible refine gate_store (t:=3) (p:=23) rfl ?_);refine store_event (t:=3) (p:=23) (v:=?vo_wz2) (w1:=(wz1.setCell ⟨go,x5.toNat * 5+1,none⟩ (.int .i64 t1.1))) ?hg ?ho ?hn ?hr ?_;(case ho=>rfl);(case hg=>rfl);(case hn=>rfl);(case hr=>first | (go_simp;done) | (go_simp;rfl));intro wz2 hw;have hp_:=Deep.H_put HH.out hp0.out hq0.out 1 (.int .i64 t1.1) (by decide) rfl;have hg:wz1.grownBy wz2 (some go):=(by rw[hw];exact hp_.2);have n0_:=aM (show Kd.H k97 97 wz2 w0.heap.size P0_ (.slice (some ⟨go,0,none⟩) x0.length co) x0 x5 oki [vr0,.int .i64 t1.1,.bool (rd_T97 x0 x5).f2,vr3,vr4] from by rw[hw];exact hp_.1);have n1_:=aM (show Below w0.heap.size w0 wz2 from by rw[hw];exact below_set HB.out GB.out);have n2_:=aM (Kept.of_grown (S:=(fun k_=>P0_ k_)) hg HK.out (fun k_ e_ => .inl ((Option.some.inj e_) ▸ HM.out)));replace HL0:=aM (Kd.R_grown HL0.out hg (fun k_ hk_ e_=>(hok.out k_ hk_).2 (Option.some.inj e_)));replace HL3:=aM (Kd.R_grown HL3.out hg (fun k_ hk_ e_=>(hok.out k_ hk_).2 (Option.some.inj e_)));replace HL4:=aM (Kd.R_grown HL4.out hg (fun k_ hk_ e_=>(hok.out k_ hk_).2 (Option.some.inj e_)));clear HH HB HK hp_ hg hw;have HH:=n0_;have HB:=n1_;have HK:=n2_;clear n0_ n1_ n2_;have hx2:wz2.cell? ⟨go,x5.toNat * 5+2,none⟩=some (.bool (rd_T97 x0 x5).f2):=(Deep.H_facts HH.out hp0.out hq0.out).1 2 _ rfl;have hz2:wz2.frozen? ⟨go,x5.toNat * 5+2,none⟩=false:=(Deep.H_facts HH.out hp0.out hq0.out).2 2) | ((with_reducible refine gate_store (t:=4) (p:=32) rfl ?_);refine store_event (t:=4) (p:=32) (v:=?vo_wz3) (w1:=(wz2.setCell ⟨go,x5.toNat * 5+2,none⟩ (.bool (decide (Int.tmod (wrap64 (t1.1+1)) 3=0))))) ?hg ?ho ?hn ?hr ?_;(case ho=>rfl);(case hg=>rfl);(case hn=>rfl);(case hr=>first | (go_simp;done) | (go_simp;rfl));intro wz3 hw;have hp_:=Deep.H_put HH.out hp0.out hq0.out 2 (.bool (decide (Int.tmod (wrap64 (t1.1+1)) 3=0))) (by decide) rfl;have hg:wz2.grownBy wz3 (some go):=(by rw[hw];exact hp_.2);have n0_:=aM (show Kd.H k97 97 wz3 w0.heap.size P0_ (.slice (some ⟨go,0,none⟩) x0.length co) x0 x5 oki [vr0,.int .i64 t1.1,.bool (decide (Int.tmod (wrap64 (t1.1+1)) 3=0)),vr3,vr4] from by rw[hw];exact hp_.1);have n1_:=aM (show Below w0.heap.size w0 wz3 from by rw[hw];exact below_set HB.out GB.out);have n2_:=aM (Kept.of_grown (S:=(fun k_=>P0_ k_)) hg HK.out (fun k_ e_ => .inl ((Option.some.inj e_) ▸ HM.out)));replace HL0:=aM (Kd.R_grown HL0.out hg (fun k_ hk_ e_=>(hok.out k_ hk_).2 (Option.some.inj e_)));replace HL3:=aM (Kd.R_grown HL3.out hg (fun k_ hk_ e_=>(hok.out k_ hk_).2 (Option.some.inj e_)));replace HL4:=aM (Kd.R_grown HL4.out hg (fun k_ hk_ e_=>(hok.out k_ hk_).2 (Option.some.inj e_)));clear HH HB HK hp_ hg hw;have HH:=n0_;have HB:=n1_;have HK:=n2_;clear n0_ n1_ n2_;have hx3:wz3.cell? ⟨go,x5.toNat * 5+3,none⟩=some (vr3):=(Deep.H_facts HH.out hp0.out hq0.out).1 3 _ rfl) | ((with_reducible refine gate_callee (f:=131) rfl ?_);refine goesL_ (some 41) rfl rfl Tryz.func131 (by kernel_rfl) rfl #[vr3,.int .i64 (wrap64 ((wrap64 (t1.1+1))+1))] rfl (by (try simp only[List.map_toArray,List.map_cons,List.map_nil]);first | done | rfl | (simp only[List.length_drop,List.length_take];rfl)) ?_;(with_reducible refine(Xan.calls k1 (fun k_=>some k_=(vr3:Value).ownBlock) vr3 ((rd_T97 x0 x5).f3) (wrap64 ((wrap64 (t1.1+1))+1)) t2.1 t2.2 w0 _ HB.out (Kd.R_tight rfl HL3.out) At2.out).mono ?_);rintro e wz4 ⟨rfl,hy0,hb,hkp⟩;refine⟨_,rfl,?_⟩;have n0_:=aM (Kd.H_kept HH.out hkp (fun k_ _ hn_ e_=>hn_ (HL3.out.1 k_ e_.symm)));have n2_:=aM (Kept.then_ (S:=(fun k_=>P0_ k_)) HK.out hkp (fun k_ e_ => .inl (hok.out k_ (HL3.out.1 k_ e_.symm)).1));replace HL0:=aM (Deep.R_other HL0.out rfl HL3.out (by decide) hkp);replace HL4:=aM (Deep.R_other HL4.out rfl HL3.out (by decide) hkp);replace HL3:=aM (Kd.R_reok rfl hy0 (fun k_ e_=>HL3.out.1 k_ e_));clear HH HB HK hkp hy0;have HH:=n0_;have HB:=Aside0.mk hb;have HK:=n2_;clear n0_ n2_ hb;have hx4:wz4.cell? ⟨go,x5.toNat * 5+4,none⟩=some (vr4):=(Deep.H_facts HH.out hp0.out hq0.out).1 4 _ rfl) | ((with_reducible refine gate_callee (f:=132) rfl ?_);refine goesL_ (some 48) rfl rfl Tryz.func132 (by kernel_rfl) rfl #[vr4,.int .i64 t2.1] rfl (by (try simp only[List.map_toArray,List.map_cons,List.map_nil]);first | done | rfl | (simp only[List.length_drop,List.length_take];rfl)) ?_;(with_reducible refine(Xao.calls k1 (fun k_=>some k_=(vr4:Value).ownBlock) vr4 ((rd_T97 x0 x5).f4) t2.1 t3.1 t3.2 w0 _ HB.out (Kd.R_tight rfl HL4.out) At3.out).mono ?_);rintro e wz5 ⟨rfl,hy0,hb,hkp⟩;refine⟨_,rfl,?_⟩;have n0_:=aM (Kd.H_kept HH.out hkp (fun k_ _ hn_ e_=>hn_ (HL4.out.1 k_ e_.symm)));have n2_:=aM (Kept.then_ (S:=(fun k_=>P0_ k_)) HK.out hkp (fun k_ e_ => .inl (hok.out k_ (HL4.out.1 k_ e_.symm)).1));replace HL0:=aM (Deep.R_other HL0.out rfl HL4.out (by decide) hkp);replace HL3:=aM (Deep.R_other HL3.out rfl HL4.out (by decide) hkp);replace HL4:=aM (Kd.R_reok rfl hy0 (fun k_ e_=>HL4.out.1 k_ e_));clear HH HB HK hkp hy0;have HH:=n0_;have HB:=Aside0.mk hb;have HK:=n2_;clear n0_ n2_ hb))
     go_roundg k1
     case measure=>have:=HK1.out;omega
     case rel=>exact⟨(x0.set (x5:Int).toNat (⟨t1.2,t1.1,(decide (Int.tmod (wrap64 (t1.1+1)) 3=0)),t2.2,t3.2⟩:S97)),t3.1,(wrap64 (x5+1)),(by first | rfl | (simp;done) | (simp[*];done)),(by first | rfl | (simp;done) | (simp[*];done)),H',⟨by have:=HK1.out;omega⟩,⟨Kd.H_back HH.out (k97_mkM _ _ _ (⟨t1.2,t1.1,(decide (Int.tmod (wrap64 (t1.1+1)) 3=0)),t2.2,t3.2⟩:S97) HL0.out HL3.out HL4.out) (fun _ hk_=>hk_)⟩,HK,HB⟩
    ·rw[if_neg c4] at H
     exact absurd H (by simp)
   ·rw[if_neg c3] at H
    have c3b0:decide (x5<(x0.length:Int))=false:=decide_eq_false c3
    clear c3
    simp only[Option.some.injEq,Prod.mk.injEq] at H
    obtain⟨rfl,rfl⟩:=H
    obtain⟨Ao,co,eo⟩:=Kd.S_slice HO.out
    subst eo
    go_wp2
    go_ret
    exact⟨by first | rfl | (simp[errW_none,errW_some]<;>rfl),HO.out,HB.out,HK.out⟩
end Go.Proofs.YtmljebgideecjaaGreat.P2
