/- A part of the proof of the law FnStarts: texts of this seat, merged (words, printed functions of the program, plain lemmas). Conditions: none of its own. -/
import Derived.Test.YthejoblnfpaojaaGreatPkFnStarts23
import Derived.Test.YthejoblnfpaojaaGreatPkFnStarts24
set_option linter.unusedSimpArgs false
set_option linter.unusedVariables false
set_option maxHeartbeats 8000000
set_option maxRecDepth 100000
namespace Go.Proofs.YthejoblnfpaojaaGreat.P
open Go.Proofs.YthejoblnfpaojaaGreatZ Go.RowKit Go.Proofs.YthejoblnfpaojaaGreatW.PrintWords Go.Proofs.YthejoblnfpaojaaGreatW.PrintLast Go.Proofs.YthejoblnfpaojaaGreatW.PrintMore
attribute [local go_sem] max2_int min2_int max_two min_two max_three min_three max_four min_four   -- for this text's walks alone
def XD.l0:Nat→Int→List Int→Int→Int→List Int→Int→Option (List Int × Int × Int × Int)
 | 0,_,_,_,_,_,_=>none
 | k+1,x4,x1000,x1001,x1002,x107000,x107001=>if x4<4 then ((Xj.f x1000 x1001 x1002 7).bind fun bt113=>((XX.f k x107000 x107001 bt113.1).bind fun t116=>(if t116<0 then (if 0≤x4 then (if x4<(x107000.length:Int) then (XD.l0 k (wrap64 (x4+1)) x1000 bt113.2.1 bt113.2.2 (x107000.set (x4:Int).toNat bt113.1) x107001) else (none)) else (none)) else (XD.l0 k (wrap64 (x4+1)) x1000 bt113.2.1 bt113.2.2 x107000 x107001)))) else ((XT.f x1000 x1001 x1002 (([0,0,1,3,5]:List Int))).bind fun bt110=>(some (x107000,bt110.1,bt110.2.1,bt110.2.2)))
def XD.f (k:Nat) (s0_0:List Int) (s0_1:Int) (s0_2:Int):Option (List Int × Int × Int × Int):=(XaM.f).bind fun bt102=>(XD.l0 k 0 s0_0 s0_1 s0_2 bt102.1 bt102.2)
theorem XD.calls (k:Nat) (g:Nat) (s0_0:List Int) (s0_1:Int) (s0_2:Int) (r1:List Int) (r2:Int) (r3:Int) (r4:Int) (w0 w:World) (hI:IsS146 w0 w g s0_0 s0_1 s0_2) (hB:Below w0.heap.size w0 w) (h:XD.f k s0_0 s0_1 s0_2=some (r1,r2,r3,r4)) :
  Calls Tryz.prog 141 #[.pointer (some ⟨g,0,none⟩)] w fun e w'=>∃ v0_:Value,e = .returned (.agg #[v0_,.int .i64 r2])∧Kd.R (Kd.int .i64) 3 w' w.heap.size (fun _=>True) v0_ r1∧IsS146 w0 w' g s0_0 r3 r4∧Below w0.heap.size w0 w'∧KeepBut w w' g none:=by
 have hu26:=Tryz.underlying26
 have HI0:=aM hI
 have HK:=aM (KeepBut.refl w g none)
 have HL:=aM hB.size
 clear hI
 have HW0:=aM hB.size
 have HB:=aM hB
 clear hB
 have H:=h
 unfold XD.f at H
 clear h
 replace H:=bE H;obtain⟨⟨t102,t105⟩,A2,H⟩:=H
 try dsimp only at H
 have H':=aM H
 clear H
 go_enter Tryz.func141,Tryz.ntmps141
 go_wp2_with (first | (refine boxE 2 #[.slice none 0 0,.int .i64 0] 26 ?_;intro gbz1 hg wz1 hbox hb;have BKz1:=aM (hbox);have GWz1:=aM ((by rw[hg];exact(keep_size (w:=w) (g:=g) (row:=none) (kX HK.out)):w.heap.size≤gbz1));have GEz1:=aM ((Nat.le_trans HW0.out (by rw[hg];exact(keep_size (w:=w) (g:=g) (row:=none) (kX HK.out)):w.heap.size≤gbz1):w0.heap.size≤gbz1));have NBz1:=aM ((by rw[hg];exact Nat.ne_of_lt (IsS146.lt (show IsS146 w0 _ g s0_0 s0_1 s0_2 from (i146 HI0.out))):g ≠ gbz1));have NBz2:=aM ((by rw[hg];exact Nat.ne_of_gt (IsS146.lt (show IsS146 w0 _ g s0_0 s0_1 s0_2 from (i146 HI0.out))):gbz1 ≠ g));replace HK:=aM (KeepBut.trans (kX HK.out) (KeepBut.of_below hb g none) (.inl rfl));replace HB:=aM (below_step (hY HB.out (IsS146.ge HI0.out)) hb);replace HI0:=aM (IsS146.below (i146 HI0.out) hb);clear hb hbox hg) | (refine goesM 193 6 Tryz.func193 #[] ?_;refine(XaM.calls _ _ _ A2.out).mono ?_;rintro e wz2 ⟨vz1,rfl,hoz1,hb⟩;refine⟨_,rfl,?_⟩;have HOz1:=aM (Kd.R_lower hoz1 (keep_size (w:=w) (g:=g) (row:=none) (kX HK.out)));replace BKz1:=aB BKz1 hb;replace HK:=aM (KeepBut.trans (kX HK.out) (KeepBut.of_below hb g none) (.inl rfl));replace HB:=aM (below_step (hY HB.out (IsS146.ge HI0.out)) hb);replace HI0:=aM (IsS146.below (i146 HI0.out) hb);clear hb hoz1) | (refine boxE 3 #[.slice none 0 0,.int .i64 0] 26 ?_;intro gbz2 hg wz3 hbox hb;have BKz2:=aM (hbox);have GWz2:=aM ((by rw[hg];exact(keep_size (w:=w) (g:=g) (row:=none) (kX HK.out)):w.heap.size≤gbz2));have GEz2:=aM ((Nat.le_trans HW0.out (by rw[hg];exact(keep_size (w:=w) (g:=g) (row:=none) (kX HK.out)):w.heap.size≤gbz2):w0.heap.size≤gbz2));have NBz3:=aL hg BKz1;have NBz4:=aR hg BKz1;have NBz5:=aM ((by rw[hg];exact Nat.ne_of_lt (IsS146.lt (show IsS146 w0 _ g s0_0 s0_1 s0_2 from (i146 HI0.out))):g ≠ gbz2));have NBz6:=aM ((by rw[hg];exact Nat.ne_of_gt (IsS146.lt (show IsS146 w0 _ g s0_0 s0_1 s0_2 from (i146 HI0.out))):gbz2 ≠ g));replace HOz1:=aQ HOz1 hb;replace BKz1:=aB BKz1 hb;replace HK:=aM (KeepBut.trans (kX HK.out) (KeepBut.of_below hb g none) (.inl rfl));replace HB:=aM (below_step (hY HB.out (IsS146.ge HI0.out)) hb);replace HI0:=aM (IsS146.below (i146 HI0.out) hb);clear hb hbox hg;obtain⟨Aoz1,coz1,eoz1⟩:=Kd.R_slice HOz1.out;subst eoz1;have hnbz1:=nB NBz4 NBz3;have hnbz2:=nB NBz6 NBz5;have hczz1:=cZ2 BKz2.out))
 go_loopg [4] k (fun kq v4 w'=>∃ (x4_1:Int) (x1001_1:Int) (x1002_1:Int) (x107000_1:List Int) (u107000:Value),v4 = .int .i64 x4_1∧Aside0 (XD.l0 kq x4_1 s0_0 x1001_1 x1002_1 x107000_1 t105=some (r1,r2,r3,r4))∧Aside0 (kq≤k)∧Aside0 (Kd.R (Kd.int .i64) 3 w' w.heap.size (fun _=>True) u107000 x107000_1)∧Aside0 (w'.heap[gbz1]? = some (.cells #[(.slice none 0 0),.int .i64 0] 26 (0,0)))∧Aside0 (w'.heap[gbz2]? = some (.cells #[u107000,.int .i64 t105] 26 (0,0)))∧Aside0 (IsS146 w0 w' g s0_0 x1001_1 x1002_1)∧Aside0 (KeepBut w w' g none)∧Aside0 (Below w0.heap.size w0 w'))
 case atStart=>exact⟨(0),(s0_1),(s0_2),(t102),(.slice Aoz1 t102.length coz1),rS,H',⟨Nat.le_refl _⟩,⟨(Kd.R_mono (rF HOz1.out BKz2.out) (fun _ hk=>trivial))⟩,⟨(bF BKz1.out)⟩,⟨(bP BKz2.out)⟩,⟨(i146 HI0.out)⟩,⟨(kX HK.out)⟩,⟨(hY HB.out (IsS146.ge HI0.out))⟩⟩
 case round =>
  clear H'
  try clear hczz1
  obtain⟨x4_1,x1001_1,x1002_1,x107000_1,u107000,rfl,HA,HKy1,HO_y1,BKz1,BKz2,HI0,HK,HB⟩:=hrel
  cases gk with
  | zero=>exact absurd HA.out (by simp[XD.l0])
  | succ k1 =>
   have H:=HA.out
   clear HA
   simp only[XD.l0] at H
   revert H;refine iN ?_ ?_<;>intro c10b0 H
   ·obtain⟨y107,hy107⟩:∃ y_:List Int,y_=(([0,0,1,3,5]:List Int)):=⟨_,rfl⟩
    replace H:((XT.f s0_0 x1001_1 x1002_1 y107).bind fun bt110=>(some (x107000_1,bt110.1,bt110.2.1,bt110.2.2)))=some (r1,r2,r3,r4):=yH H hy107
    have Ny107:=aM hy107
    clear hy107
    replace H:=bE H;obtain⟨⟨t110,t111,t112⟩,A32,H⟩:=H
    try dsimp only at H
    simp only[Option.some.injEq,Prod.mk.injEq] at H
    obtain⟨rfl,rfl,rfl,rfl⟩:=H
    go_wp2_with (first | ((with_reducible refine gate_dst (N:=23) rfl ?_);refine Kd.R_lit (Kd.int .i64) _ 3 ?hg (N:=23) ?hd (xs:=([0,0,1,3,5]:List Int)) (inner:=[.int .i64 0,.int .i64 0,.int .i64 1,.int .i64 3,.int .i64 5]) (ok:=fun _=>True) (okp:=fun _=>True) ?hr ?hp (fun _ hk=>hk) trivial (Below.refl _ _) (Nat.le_refl _) (by simp) ?_;(case hd=>rfl);(case hg=>rfl);(case hr=>first | (go_simp;done) | (go_simp;rfl));(case hp=>exact(Reps.one (show Kd.M (Kd.int .i64) _ _ _ 0 [.int .i64 0] from rfl) (Reps.one (show Kd.M (Kd.int .i64) _ _ _ 0 [.int .i64 0] from rfl) (Reps.one (show Kd.M (Kd.int .i64) _ _ _ 1 [.int .i64 1] from rfl) (Reps.one (show Kd.M (Kd.int .i64) _ _ _ 3 [.int .i64 3] from rfl) (Reps.one (show Kd.M (Kd.int .i64) _ _ _ 5 [.int .i64 5] from rfl) (Reps.none _ _)))))));intro vx1 wx1 hox1 hb hg_ hnew_;clear hg_ hnew_;(first | rw[← Ny107.out] at hox1 | (simp only[Int.reduceToNat] at hox1;rw[← Ny107.out] at hox1));have HOx1:=aM (Kd.R_lower (Kd.R_new' hox1 (Kd.R_lt (rX HO_y1.out))) (keep_size (w:=w) (g:=g) (row:=none) (kX HK.out)));replace HO_y1:=aM (Kd.R_elder' (rX HO_y1.out) (Kd.R_base hox1) hb);replace BKz1:=aB BKz1 hb;replace BKz2:=aB BKz2 hb;replace HK:=aM (KeepBut.trans (kX HK.out) (KeepBut.of_below hb g none) (.inl rfl));replace HB:=aM (below_step (hY HB.out (IsS146.ge HI0.out)) hb);replace HI0:=aM (IsS146.below (i146 HI0.out) hb);clear hb hox1;obtain⟨Aox1,cox1,eox1⟩:=Kd.R_slice HOx1.out;subst eox1) | (refine goesM 97 24 Tryz.func97 #[.pointer (some ⟨g,0,none⟩),.slice Aox1 y107.length cox1] ?_;refine(XT.calls g s0_0 x1001_1 x1002_1 _ _ y107 t110 t111 t112 w0 _ (by repeat (first | (with_reducible first | exact HI0.out | apply IsS146.alloc | apply IsS146.drewN | apply IsS146.drew | apply IsS146.set_1 | apply IsS146.set_2 | refine IsS146.far ?_ NBz1.out _ | refine IsS146.far ?_ NBz5.out _) | exact HI0.out)) (by repeat (first | (with_reducible first | exact HB.out | apply below_alloc | apply pw_below_drewN | apply below_drew1 | refine below_set ?_ (IsS146.ge HI0.out) | refine below_set ?_ GEz1.out | refine below_set ?_ GEz2.out) | exact HB.out)) (rw2 (cX (Kd.R_reads' HOx1.out).2.2) ((Kd.R_reads' HOx1.out).2.1)) (by exact far_slice (IsS146.own_ne HI0.out HOx1.out (by decide))) A32.out).mono ?_;rintro e wx2 ⟨rfl,hi,hb,hk⟩;refine⟨_,rfl,?_⟩;replace HO_y1:=aM (Kd.R_mono (Kd.R_keep (IsS146.apart (show IsS146 w0 _ g s0_0 x1001_1 x1002_1 from (i146 HI0.out)) (rX HO_y1.out) (by decide)) hk (fun _ h=>h.2)) (fun _ h=>h.1));replace BKz1:=aM (KeepBut.blk hk (g':=gbz1) (o:=.cells #[.slice none 0 0,.int .i64 0] 26 (0,0)) (bX BKz1.out) NBz2.out (by simp));replace BKz2:=aM (KeepBut.blk hk (g':=gbz2) (o:=.cells #[u107000,.int .i64 t105] 26 (0,0)) (bX BKz2.out) NBz6.out (by simp));replace HOx1:=aM (Kd.R_mono (Kd.R_keep (IsS146.apart (show IsS146 w0 _ g s0_0 x1001_1 x1002_1 from (i146 HI0.out)) (rX HOx1.out) (by decide)) hk (fun _ h=>h.2)) (fun _ h=>h.1));replace HK:=aM (KeepBut.trans (kX HK.out) hk (.inl rfl));replace HB:=aM (hb);replace HI0:=aM (hi);clear hb hk hi;have hnbx1:=NBz4.out;have hncx1:=NBz3.out;have hnbx2:=NBz6.out;have hncx2:=NBz5.out;have hczx1:=cZ2 BKz2.out;obtain⟨Aox2,cox2,eox2⟩:=Kd.R_slice HO_y1.out;subst eox2;have hnbx3:=nB NBz2 NBz1;have hczx3:=cZ2 BKz1.out))
    refine bodyPost_ret (results_cell_row rfl _ _ gbz1 26 #[.slice Aox2 x107000_1.length cox2,.int .i64 t110] (0,0) _ rfl (bP BKz1.out) Tryz.underlying26 rfl (by kernel_rfl)) rfl ?_
    exact⟨_,rE,(Kd.R_mono (rF2 HO_y1.out BKz2.out BKz1.out) (fun _ hk=>trivial)),(i146 HI0.out),(hY HB.out (IsS146.ge HI0.out)),(kX HK.out)⟩
   replace H:=bE H;obtain⟨⟨t113,t114,t115⟩,A11,H⟩:=H
   try dsimp only at H
   replace H:=bE H;obtain⟨t116,A12,H⟩:=H
   go_wp2_with (refine goesM 76 12 Tryz.func76 #[.pointer (some ⟨g,0,none⟩),.int .i64 7] ?_;refine(Xj.calls g s0_0 x1001_1 x1002_1 7 t113 t114 t115 w0 _ (by repeat (first | (with_reducible first | exact HI0.out | apply IsS146.alloc | apply IsS146.drewN | apply IsS146.drew | apply IsS146.set_1 | apply IsS146.set_2 | refine IsS146.far ?_ NBz1.out _ | refine IsS146.far ?_ NBz5.out _) | exact HI0.out)) (by repeat (first | (with_reducible first | exact HB.out | apply below_alloc | apply pw_below_drewN | apply below_drew1 | refine below_set ?_ (IsS146.ge HI0.out) | refine below_set ?_ GEz1.out | refine below_set ?_ GEz2.out) | exact HB.out)) A11.out).mono ?_;rintro e wx1 ⟨rfl,hi,hb,hk⟩;refine⟨_,rfl,?_⟩;replace HO_y1:=aM (Kd.R_mono (Kd.R_keep (IsS146.apart (show IsS146 w0 _ g s0_0 x1001_1 x1002_1 from (i146 HI0.out)) (rX HO_y1.out) (by decide)) hk (fun _ h=>h.2)) (fun _ h=>h.1));replace BKz1:=aM (KeepBut.blk hk (g':=gbz1) (o:=.cells #[.slice none 0 0,.int .i64 0] 26 (0,0)) (bX BKz1.out) NBz2.out (by simp));replace BKz2:=aM (KeepBut.blk hk (g':=gbz2) (o:=.cells #[u107000,.int .i64 t105] 26 (0,0)) (bX BKz2.out) NBz6.out (by simp));replace HK:=aM (KeepBut.trans (kX HK.out) hk (.inl rfl));replace HB:=aM (hb);replace HI0:=aM (hi);clear hb hk hi;have hnbx1:=NBz4.out;have hncx1:=NBz3.out;have hnbx2:=NBz6.out;have hncx2:=NBz5.out;have hczx1:=cZ2 BKz2.out;obtain⟨Aox1,cox1,eox1⟩:=Kd.R_slice HO_y1.out;subst eox1;refine Stop.out ?_)
   refine⟨?_⟩
   revert H;refine iN ?_ ?_<;>intro c13b0 H
   ·have H':=aM H
    clear H
    go_wp2_with (refine gB 183 15 Tryz.func183 (XX.calls _ _ _ _ _ _ _ _ (rw2 (cX (Kd.R_reads' HO_y1.out).2.2) ((Kd.R_reads' HO_y1.out).2.1)) A12.out) ?_;intro wx2 hb;replace HO_y1:=aQ HO_y1 hb;replace BKz1:=aB BKz1 hb;replace BKz2:=aB BKz2 hb;replace HK:=aM (KeepBut.trans (kX HK.out) (KeepBut.of_below hb g none) (.inl rfl));replace HB:=aM (below_step (hY HB.out (IsS146.ge HI0.out)) hb);replace HI0:=aM (IsS146.below (i146 HI0.out) hb);clear hb)
    go_roundg k1
    case measure=>have:=HKy1.out;omega
    case rel=>exact⟨(wrap64 (x4_1+1)),(t114),(t115),(x107000_1),(.slice Aox1 x107000_1.length cox1),rS,H',⟨by have:=HKy1.out;omega⟩,⟨(rX HO_y1.out)⟩,⟨(bX BKz1.out)⟩,⟨(bX BKz2.out)⟩,⟨(i146 HI0.out)⟩,⟨(kX HK.out)⟩,⟨(hY HB.out (IsS146.ge HI0.out))⟩⟩
   replace H:=ifQ H;obtain⟨c14b0,H⟩:=H
   replace H:=ifQ H;obtain⟨c15b0,H⟩:=H
   obtain⟨y117,hy117⟩:∃ y_:List Int,y_=(x107000_1.set (x4_1:Int).toNat t113):=⟨_,rfl⟩
   replace H:(XD.l0 k1 (wrap64 (x4_1+1)) s0_0 t114 t115 y117 t105)=some (r1,r2,r3,r4):=yH H hy117
   have Ny117:=aM hy117
   clear hy117
   have H':=aM H
   clear H
   go_wp2_with (first | (refine gB 183 15 Tryz.func183 (XX.calls _ _ _ _ _ _ _ _ (rw2 (cX (Kd.R_reads' HO_y1.out).2.2) ((Kd.R_reads' HO_y1.out).2.1)) A12.out) ?_;intro wx2 hb;replace HO_y1:=aQ HO_y1 hb;replace BKz1:=aB BKz1 hb;replace BKz2:=aB BKz2 hb;replace HK:=aM (KeepBut.trans (kX HK.out) (KeepBut.of_below hb g none) (.inl rfl));replace HB:=aM (below_step (hY HB.out (IsS146.ge HI0.out)) hb);replace HI0:=aM (IsS146.below (i146 HI0.out) hb);clear hb;have hczx3:=cZ2 BKz2.out;have px1:0≤(x4_1:Int):=odA;have qx1:(x4_1:Int)<((x107000_1.length:Int):Int):=odA;obtain⟨gox1,cox2,eox2,gbx1,glx1,clx1,HGx1⟩:=Kd.R_form HO_y1.out (by omega);(first | cases eox2 | (injection eox2 with ea_ en_ ec_;(first | subst ea_ | (injection ea_ with ea_;subst ea_));subst ec_;clear en_));have GBx1:=aM gbx1;have GGx1:=aM HGx1;clear gbx1 glx1 HGx1;obtain⟨hxx1,hfx1⟩:=Kd.R_celln 0 HO_y1.out (x4_1:Int) px1 qx1;replace px1:=eq_true px1;replace qx1:=eq_true qx1;obtain⟨hyx1,hzx1⟩:=Kd.R_celln 0 HO_y1.out (x4_1:Int) (odA) (odA);have HPx1:=Kd.R_putg HO_y1.out (x4_1:Int) t113) | ((with_reducible refine gate_store (t:=3) (p:=21) rfl ?_);refine store_event (t:=3) (p:=21) (v:=?vo_wx3) (w1:=(wx2.setCell ⟨gox1,(x4_1:Int).toNat,none⟩ (.int .i64 t113))) ?hg ?ho ?hn ?hr ?_;(case ho=>rfl);(case hg=>rfl);(case hn=>rfl);(case hr=>first | (go_simp;done) | (go_simp;rfl));intro wx3 hw;have hg:wx2.grownBy wx3 (some gox1):=(by rw[hw];exact HPx1.2);have hp_:Kd.R (Kd.int .i64) 3 wx3 w.heap.size (fun _=>True) (.slice (some ⟨gox1,0,none⟩) x107000_1.length cox1) y117:=(by rw[hw,Ny117.out];exact HPx1.1);clear HPx1;replace BKz1:=aM (blk_grown (g:=gbz1) (o:=.cells #[.slice none 0 0,.int .i64 0] 26 (0,0)) (bX BKz1.out) hg (Kd.R_ne HO_y1.out BKz1.out (by decide)));replace BKz2:=aM (blk_grown (g:=gbz2) (o:=.cells #[.slice (some ⟨gox1,0,none⟩) x107000_1.length cox1,.int .i64 t105] 26 (0,0)) (bX BKz2.out) hg (Kd.R_ne HO_y1.out BKz2.out (by decide)));replace HI0:=aM (IsS146.grown (i146 HI0.out) hg (IsS146.own_ne HI0.out HO_y1.out (by decide)));replace HB:=aM ((by rw[hw];exact below_set (HB.out) (Nat.le_trans HL.out GBx1.out):Below w0.heap.size w0 wx3));replace HK:=aM (KeepBut.trans (kX HK.out) (KeepBut.of_grown hg g) (Kd.R_base2 HO_y1.out));replace HO_y1:=aM (hp_);clear hg hw hp_))
   go_roundg k1
   case measure=>have:=HKy1.out;omega
   case rel=>exact⟨(wrap64 (x4_1+1)),(t114),(t115),(y117),(.slice (some ⟨gox1,0,none⟩) x107000_1.length cox1),rS,H',⟨by have:=HKy1.out;omega⟩,⟨(rX HO_y1.out)⟩,⟨(bX BKz1.out)⟩,⟨(bX BKz2.out)⟩,⟨(i146 HI0.out)⟩,⟨(kX HK.out)⟩,⟨(hY HB.out (IsS146.ge HI0.out))⟩⟩
mutual
def Xp.j0:Nat→List Int→Int→Int→Int→Int→Int→Option (Int × Int × Int × Int × Int)
 | 0,_,_,_,_,_,_=>none
 | k+1,x1000,x1001,x1002,x109000,x109001,x109002=>if x109000=6 then ((Xj.f x1000 x1001 x1002 3).bind fun bt113=>(Xp.j1 k x1000 bt113.2.1 bt113.2.2 x109000 bt113.1 x109002)) else (Xp.j1 k x1000 x1001 x1002 x109000 x109001 x109002)
def Xp.j1:Nat→List Int→Int→Int→Int→Int→Int→Option (Int × Int × Int × Int × Int)
 | 0,_,_,_,_,_,_=>none
 | k+1,x1000,x1001,x1002,x109000,x109001,x109002=>(Xap.f x109000).bind fun t116=>(if t116=true then ((Xj.f x1000 x1001 x1002 4).bind fun bt117=>(some (x109000,x109001,wrap64 (1+bt117.1),bt117.2.1,bt117.2.2))) else (some (x109000,x109001,x109002,x1001,x1002)))
end
def Xp.f (k:Nat) (s0_0:List Int) (s0_1:Int) (s0_2:Int):Option (Int × Int × Int × Int × Int):=(XT.f s0_0 s0_1 s0_2 (([1,1,1,2,2,3,4,5,6,7,8,9,9,10]:List Int))).bind fun bt105=>((Xas.f bt105.1).bind fun t109=>(if t109=true then ((Xj.f s0_0 bt105.2.1 bt105.2.2 4).bind fun bt110=>(Xp.j0 k s0_0 bt110.2.1 bt110.2.2 bt105.1 bt110.1 0)) else (Xp.j0 k s0_0 bt105.2.1 bt105.2.2 bt105.1 0 0)))
theorem Xp.calls (k:Nat) (g:Nat) (s0_0:List Int) (s0_1:Int) (s0_2:Int) (r1:Int) (r2:Int) (r3:Int) (r4:Int) (r5:Int) (w0 w:World) (hI:IsS146 w0 w g s0_0 s0_1 s0_2) (hB:Below w0.heap.size w0 w) (h:Xp.f k s0_0 s0_1 s0_2=some (r1,r2,r3,r4,r5)) :
  Calls Tryz.prog 142 #[.pointer (some ⟨g,0,none⟩)] w fun e w'=>e = .returned (.agg #[.int .i64 r1,.int .i64 r2,.int .i64 r3])∧IsS146 w0 w' g s0_0 r4 r5∧Below w0.heap.size w0 w'∧KeepBut w w' g none:=by
 have hu78:=Tryz.underlying78
 have HI0:=aM hI
 have HK:=aM (KeepBut.refl w g none)
 have HL:=aM hB.size
 clear hI
 have HW0:=aM hB.size
 have HB:=aM hB
 clear hB
 have H:=h
 unfold Xp.f at H
 clear h
 obtain⟨y102,hy102⟩:∃ y_:List Int,y_=(([1,1,1,2,2,3,4,5,6,7,8,9,9,10]:List Int)):=⟨_,rfl⟩
 replace H:((XT.f s0_0 s0_1 s0_2 y102).bind fun bt105=>((Xas.f bt105.1).bind fun t109=>(if t109=true then ((Xj.f s0_0 bt105.2.1 bt105.2.2 4).bind fun bt110=>(Xp.j0 k s0_0 bt110.2.1 bt110.2.2 bt105.1 bt110.1 0)) else (Xp.j0 k s0_0 bt105.2.1 bt105.2.2 bt105.1 0 0))))=some (r1,r2,r3,r4,r5):=yH H hy102
 have Ny102:=aM hy102
 clear hy102
 replace H:=bE H;obtain⟨⟨t105,t106,t107⟩,A2,H⟩:=H
 try dsimp only at H
 replace H:=bE H;obtain⟨t109,A3,H⟩:=H
 have HC4:=aM H
 clear H
 go_enter Tryz.func142,Tryz.ntmps142
 go_upto_if 10 with(first | ((with_reducible refine gate_dst (N:=2) rfl ?_);refine boxE 2 #[.int .i64 0,.int .i64 0,.int .i64 0] 78 ?_;intro gbz1 hg wz1 hbox hb;have BKz1:=aM (hbox);have GWz1:=aM ((by rw[hg];exact(keep_size (w:=w) (g:=g) (row:=none) (kX HK.out)):w.heap.size≤gbz1));have GEz1:=aM ((Nat.le_trans HW0.out (by rw[hg];exact(keep_size (w:=w) (g:=g) (row:=none) (kX HK.out)):w.heap.size≤gbz1):w0.heap.size≤gbz1));have NBz1:=aM ((by rw[hg];exact Nat.ne_of_lt (IsS146.lt (show IsS146 w0 _ g s0_0 s0_1 s0_2 from (i146 HI0.out))):g ≠ gbz1));have NBz2:=aM ((by rw[hg];exact Nat.ne_of_gt (IsS146.lt (show IsS146 w0 _ g s0_0 s0_1 s0_2 from (i146 HI0.out))):gbz1 ≠ g));replace HK:=aM (KeepBut.trans (kX HK.out) (KeepBut.of_below hb g none) (.inl rfl));replace HB:=aM (below_step (hY HB.out (IsS146.ge HI0.out)) hb);replace HI0:=aM (IsS146.below (i146 HI0.out) hb);clear hb hbox hg) | ((with_reducible refine gate_dst (N:=5) rfl ?_);refine Kd.R_lit (Kd.int .i64) _ 3 ?hg (N:=5) ?hd (xs:=([1,1,1,2,2,3,4,5,6,7,8,9,9,10]:List Int)) (inner:=[.int .i64 1,.int .i64 1,.int .i64 1,.int .i64 2,.int .i64 2,.int .i64 3,.int .i64 4,.int .i64 5,.int .i64 6,.int .i64 7,.int .i64 8,.int .i64 9,.int .i64 9,.int .i64 10]) (ok:=fun _=>True) (okp:=fun _=>True) ?hr ?hp (fun _ hk=>hk) trivial (Below.refl _ _) (Nat.le_refl _) (by simp) ?_;(case hd=>rfl);(case hg=>rfl);(case hr=>first | (go_simp;done) | (go_simp;rfl));(case hp=>exact(Reps.one (show Kd.M (Kd.int .i64) _ _ _ 1 [.int .i64 1] from rfl) (Reps.one (show Kd.M (Kd.int .i64) _ _ _ 1 [.int .i64 1] from rfl) (Reps.one (show Kd.M (Kd.int .i64) _ _ _ 1 [.int .i64 1] from rfl) (Reps.one (show Kd.M (Kd.int .i64) _ _ _ 2 [.int .i64 2] from rfl) (Reps.one (show Kd.M (Kd.int .i64) _ _ _ 2 [.int .i64 2] from rfl) (Reps.one (show Kd.M (Kd.int .i64) _ _ _ 3 [.int .i64 3] from rfl) (Reps.one (show Kd.M (Kd.int .i64) _ _ _ 4 [.int .i64 4] from rfl) (Reps.one (show Kd.M (Kd.int .i64) _ _ _ 5 [.int .i64 5] from rfl) (Reps.one (show Kd.M (Kd.int .i64) _ _ _ 6 [.int .i64 6] from rfl) (Reps.one (show Kd.M (Kd.int .i64) _ _ _ 7 [.int .i64 7] from rfl) (Reps.one (show Kd.M (Kd.int .i64) _ _ _ 8 [.int .i64 8] from rfl) (Reps.one (show Kd.M (Kd.int .i64) _ _ _ 9 [.int .i64 9] from rfl) (Reps.one (show Kd.M (Kd.int .i64) _ _ _ 9 [.int .i64 9] from rfl) (Reps.one (show Kd.M (Kd.int .i64) _ _ _ 10 [.int .i64 10] from rfl) (Reps.none _ _))))))))))))))));intro vz1 wz2 hoz1 hb hg_ hnew_;clear hg_ hnew_;(first | rw[← Ny102.out] at hoz1 | (simp only[Int.reduceToNat] at hoz1;rw[← Ny102.out] at hoz1));have HOz1:=aM (Kd.R_lower hoz1 (keep_size (w:=w) (g:=g) (row:=none) (kX HK.out)));replace BKz1:=aB BKz1 hb;replace HK:=aM (KeepBut.trans (kX HK.out) (KeepBut.of_below hb g none) (.inl rfl));replace HB:=aM (below_step (hY HB.out (IsS146.ge HI0.out)) hb);replace HI0:=aM (IsS146.below (i146 HI0.out) hb);clear hb hoz1;obtain⟨Aoz1,coz1,eoz1⟩:=Kd.R_slice HOz1.out;subst eoz1) | ((with_reducible refine gate_callee (f:=97) rfl ?_);refine goesM 97 6 Tryz.func97 #[.pointer (some ⟨g,0,none⟩),.slice Aoz1 y102.length coz1] ?_;refine(XT.calls g s0_0 s0_1 s0_2 _ _ y102 t105 t106 t107 w0 _ (by repeat (first | (with_reducible first | exact HI0.out | apply IsS146.alloc | apply IsS146.drewN | apply IsS146.drew | apply IsS146.set_1 | apply IsS146.set_2 | refine IsS146.far ?_ NBz1.out _) | exact HI0.out)) (by repeat (first | (with_reducible first | exact HB.out | apply below_alloc | apply pw_below_drewN | apply below_drew1 | refine below_set ?_ (IsS146.ge HI0.out) | refine below_set ?_ GEz1.out) | exact HB.out)) (rw2 (cX (Kd.R_reads' HOz1.out).2.2) ((Kd.R_reads' HOz1.out).2.1)) (by exact far_slice (IsS146.own_ne HI0.out HOz1.out (by decide))) A2.out).mono ?_;rintro e wz3 ⟨rfl,hi,hb,hk⟩;refine⟨_,rfl,?_⟩;replace BKz1:=aM (KeepBut.blk hk (g':=gbz1) (o:=.cells #[.int .i64 0,.int .i64 0,.int .i64 0] 78 (0,0)) (bX BKz1.out) NBz2.out (by simp));replace HOz1:=aM (Kd.R_mono (Kd.R_keep (IsS146.apart (show IsS146 w0 _ g s0_0 s0_1 s0_2 from (i146 HI0.out)) (rX HOz1.out) (by decide)) hk (fun _ h=>h.2)) (fun _ h=>h.1));replace HK:=aM (KeepBut.trans (kX HK.out) hk (.inl rfl));replace HB:=aM (hb);replace HI0:=aM (hi);clear hb hk hi) | ((with_reducible refine gate_dst (N:=3) rfl ?_);refine boxE 3 #[.int .i64 0,.int .i64 0,.int .i64 0] 78 ?_;intro gbz2 hg wz4 hbox hb;have BKz2:=aM (hbox);have GWz2:=aM ((by rw[hg];exact(keep_size (w:=w) (g:=g) (row:=none) (kX HK.out)):w.heap.size≤gbz2));have GEz2:=aM ((Nat.le_trans HW0.out (by rw[hg];exact(keep_size (w:=w) (g:=g) (row:=none) (kX HK.out)):w.heap.size≤gbz2):w0.heap.size≤gbz2));have NBz3:=aL hg BKz1;have NBz4:=aR hg BKz1;have NBz5:=aM ((by rw[hg];exact Nat.ne_of_lt (IsS146.lt (show IsS146 w0 _ g s0_0 t106 t107 from (i146 HI0.out))):g ≠ gbz2));have NBz6:=aM ((by rw[hg];exact Nat.ne_of_gt (IsS146.lt (show IsS146 w0 _ g s0_0 t106 t107 from (i146 HI0.out))):gbz2 ≠ g));replace HOz1:=aQ HOz1 hb;replace BKz1:=aB BKz1 hb;replace HK:=aM (KeepBut.trans (kX HK.out) (KeepBut.of_below hb g none) (.inl rfl));replace HB:=aM (below_step (hY HB.out (IsS146.ge HI0.out)) hb);replace HI0:=aM (IsS146.below (i146 HI0.out) hb);clear hb hbox hg;have hnbz1:=nB NBz4 NBz3;have hnbz2:=nB NBz6 NBz5;have hczz1:=cZ3 BKz2.out) | ((with_reducible refine gate_callee (f:=175) rfl ?_);refine gD 175 10 Tryz.func175 (Xas.calls _ _ _ A3.out) ?_;intro nd))
 (try simp only[Act.put,List.setIfInBounds_toArray,List.set_cons_zero,List.set_cons_succ])
 go_cut [] (fun wc=>∃ (kq:Nat) (x1001_3:Int) (x1002_3:Int) (x109001_3:Int),Aside0 (Xp.j0 kq s0_0 x1001_3 x1002_3 t105 x109001_3 0=some (r1,r2,r3,r4,r5))∧Aside0 (kq≤k)∧Aside0 (wc.heap[gbz1]? = some (.cells #[.int .i64 0,.int .i64 0,.int .i64 0] 78 (0,0)))∧Aside0 (wc.heap[gbz2]? = some (.cells #[.int .i64 t105,.int .i64 x109001_3,.int .i64 0] 78 (0,0)))∧Aside0 (IsS146 w0 wc g s0_0 x1001_3 x1002_3)∧Aside0 (KeepBut w wc g none)∧Aside0 (Below w0.heap.size w0 wc))
 case first =>
  have H:=HC4.out
  clear HC4
  cases t109
  case false =>
   rw[if_neg nft] at H
   have H':=aM H
   clear H
   go_wp2
   go_meet
   case rel=>exact⟨_,(t106),(t107),(0),H',⟨by first | omega | exact Nat.le_refl _⟩,⟨(bF BKz1.out)⟩,⟨(bP BKz2.out)⟩,⟨(i146 HI0.out)⟩,⟨(kX HK.out)⟩,⟨(hY HB.out (IsS146.ge HI0.out))⟩⟩
  rw[if_pos rfl] at H
  replace H:=bE H;obtain⟨⟨t110,t111,t112⟩,A15,H⟩:=H
  try dsimp only at H
  have H':=aM H
  clear H
  go_wp2_with (refine goesM 76 12 Tryz.func76 #[.pointer (some ⟨g,0,none⟩),.int .i64 4] ?_;refine(Xj.calls g s0_0 t106 t107 4 t110 t111 t112 w0 _ (by repeat (first | (with_reducible first | exact HI0.out | apply IsS146.alloc | apply IsS146.drewN | apply IsS146.drew | apply IsS146.set_1 | apply IsS146.set_2 | refine IsS146.far ?_ NBz1.out _ | refine IsS146.far ?_ NBz5.out _) | exact HI0.out)) (by repeat (first | (with_reducible first | exact HB.out | apply below_alloc | apply pw_below_drewN | apply below_drew1 | refine below_set ?_ (IsS146.ge HI0.out) | refine below_set ?_ GEz1.out | refine below_set ?_ GEz2.out) | exact HB.out)) A15.out).mono ?_;rintro e wy1 ⟨rfl,hi,hb,hk⟩;refine⟨_,rfl,?_⟩;replace BKz1:=aM (KeepBut.blk hk (g':=gbz1) (o:=.cells #[.int .i64 0,.int .i64 0,.int .i64 0] 78 (0,0)) (bF BKz1.out) NBz2.out (by simp));replace HOz1:=aM (Kd.R_mono (Kd.R_keep (IsS146.apart (show IsS146 w0 _ g s0_0 t106 t107 from (i146 HI0.out)) (rF HOz1.out BKz2.out) (by decide)) hk (fun _ h=>h.2)) (fun _ h=>h.1));replace BKz2:=aM (KeepBut.blk hk (g':=gbz2) (o:=.cells #[.int .i64 t105,.int .i64 0,.int .i64 0] 78 (0,0)) (bP BKz2.out) NBz6.out (by simp));replace HK:=aM (KeepBut.trans (kX HK.out) hk (.inl rfl));replace HB:=aM (hb);replace HI0:=aM (hi);clear hb hk hi;have hnby1:=nB NBz4 NBz3;have hnby2:=nB NBz6 NBz5;have hczy1:=cZ3 BKz2.out)
  go_meet
  case rel=>exact⟨_,(t111),(t112),(t110),H',⟨by first | omega | exact Nat.le_refl _⟩,⟨(bF BKz1.out)⟩,⟨(bP BKz2.out)⟩,⟨(i146 HI0.out)⟩,⟨(kX HK.out)⟩,⟨(hY HB.out (IsS146.ge HI0.out))⟩⟩
 case rest =>
  clear HC4
  try clear hczz1
  obtain⟨kq,x1001_3,x1002_3,x109001_3,HA,HJy1,BKz1,BKz2,HI0,HK,HB⟩:=hcut
  cases kq with
  | zero=>exact absurd HA.out (by simp[Xp.j0])
  | succ kj3 =>
   have H:=HA.out
   clear HA
   simp only[Xp.j0] at H
   have HC20:=aM H
   clear H
   have hnbx1:=nB NBz4 NBz3
   have hnbx2:=nB NBz6 NBz5
   have hczx1:=cZ3 BKz2.out
   go_upto_if 16 with(fail)
   go_cut [] (fun wc=>∃ (kq:Nat) (x1001_19:Int) (x1002_19:Int) (x109001_19:Int),Aside0 (Xp.j1 kq s0_0 x1001_19 x1002_19 t105 x109001_19 0=some (r1,r2,r3,r4,r5))∧Aside0 (kq≤kj3)∧Aside0 (wc.heap[gbz1]? = some (.cells #[.int .i64 0,.int .i64 0,.int .i64 0] 78 (0,0)))∧Aside0 (wc.heap[gbz2]? = some (.cells #[.int .i64 t105,.int .i64 x109001_19,.int .i64 0] 78 (0,0)))∧Aside0 (IsS146 w0 wc g s0_0 x1001_19 x1002_19)∧Aside0 (KeepBut w wc g none)∧Aside0 (Below w0.heap.size w0 wc))
   case first =>
    have H:=HC20.out
    clear HC20
    revert H;refine eN ?_ ?_<;>intro c24b0 c24b1 H
    ·(first | rw[c24b0] | (simp only[i64_w,i32_w];rw[c24b0]) | skip)
     have H':=aM H
     clear H
     go_wp2
     go_meet
     case rel=>exact⟨_,(x1001_3),(x1002_3),(x109001_3),H',⟨by have:=HJy1.out;first | omega | exact Nat.le_refl _⟩,⟨(bX BKz1.out)⟩,⟨(bX BKz2.out)⟩,⟨(i146 HI0.out)⟩,⟨(kX HK.out)⟩,⟨(hY HB.out (IsS146.ge HI0.out))⟩⟩
    (first | rw[c24b0] | (simp only[i64_w,i32_w];rw[c24b0]) | skip)
    replace H:=bE H;obtain⟨⟨t113,t114,t115⟩,A25,H⟩:=H
    try dsimp only at H
    have H':=aM H
    clear H
    go_wp2_with (refine goesM 76 18 Tryz.func76 #[.pointer (some ⟨g,0,none⟩),.int .i64 3] ?_;refine(Xj.calls g s0_0 x1001_3 x1002_3 3 t113 t114 t115 w0 _ (by repeat (first | (with_reducible first | exact HI0.out | apply IsS146.alloc | apply IsS146.drewN | apply IsS146.drew | apply IsS146.set_1 | apply IsS146.set_2 | refine IsS146.far ?_ NBz1.out _ | refine IsS146.far ?_ NBz5.out _) | exact HI0.out)) (by repeat (first | (with_reducible first | exact HB.out | apply below_alloc | apply pw_below_drewN | apply below_drew1 | refine below_set ?_ (IsS146.ge HI0.out) | refine below_set ?_ GEz1.out | refine below_set ?_ GEz2.out) | exact HB.out)) A25.out).mono ?_;rintro e ww1 ⟨rfl,hi,hb,hk⟩;refine⟨_,rfl,?_⟩;replace BKz1:=aM (KeepBut.blk hk (g':=gbz1) (o:=.cells #[.int .i64 0,.int .i64 0,.int .i64 0] 78 (0,0)) (bX BKz1.out) NBz2.out (by simp));replace BKz2:=aM (KeepBut.blk hk (g':=gbz2) (o:=.cells #[.int .i64 t105,.int .i64 x109001_3,.int .i64 0] 78 (0,0)) (bX BKz2.out) NBz6.out (by simp));replace HK:=aM (KeepBut.trans (kX HK.out) hk (.inl rfl));replace HB:=aM (hb);replace HI0:=aM (hi);clear hb hk hi;have hnbw1:=nB NBz4 NBz3;have hnbw2:=nB NBz6 NBz5;have hczw1:=cZ3 BKz2.out)
    go_meet
    case rel=>exact⟨_,(t114),(t115),(t113),H',⟨by have:=HJy1.out;first | omega | exact Nat.le_refl _⟩,⟨(bF BKz1.out)⟩,⟨(bP BKz2.out)⟩,⟨(i146 HI0.out)⟩,⟨(kX HK.out)⟩,⟨(hY HB.out (IsS146.ge HI0.out))⟩⟩
   case rest =>
    clear HC20
    try clear hczz1
    try clear hczx1
    obtain⟨kq,x1001_19,x1002_19,x109001_19,HA,HJw1,BKz1,BKz2,HI0,HK,HB⟩:=hcut
    cases kq with
    | zero=>exact absurd HA.out (by simp[Xp.j1])
    | succ kj19 =>
     have H:=HA.out
     clear HA
     simp only[Xp.j1] at H
     replace H:=bE H;obtain⟨t116,A30,H⟩:=H
     cases t116
     case false =>
      rw[if_neg nft] at H
      simp only[Option.some.injEq,Prod.mk.injEq] at H
      obtain⟨rfl,rfl,rfl,rfl,rfl⟩:=H
      have hnbv1:=NBz4.out
      have hncv1:=NBz3.out
      have hnbv2:=NBz6.out
      have hncv2:=NBz5.out
      have hczv1:=cZ3 BKz2.out
      go_wp2_with (refine gD 176 22 Tryz.func176 (Xap.calls _ _ _ A30.out) ?_;intro nd;(try (rw[drewN_self wc];generalize hq_:World.drewN wc _=wc;have nv1:Aside0 (wc.heap[gbz1]? = some (.cells #[.int .i64 0,.int .i64 0,.int .i64 0] 78 (0,0))):=⟨by rw[← hq_];exact(bX BKz1.out)⟩;have nv2:Aside0 (wc.heap[gbz2]? = some (.cells #[.int .i64 t105,.int .i64 x109001_19,.int .i64 0] 78 (0,0))):=⟨by rw[← hq_];exact(bX BKz2.out)⟩;have nv3:Aside0 (IsS146 w0 wc g s0_0 x1001_19 x1002_19):=⟨by rw[← hq_];exact(i146 HI0.out)⟩;have nv4:Aside0 (KeepBut w wc g none):=⟨by rw[← hq_];exact(kX HK.out)⟩;have nv5:Aside0 (Below w0.heap.size w0 wc):=⟨by rw[← hq_];exact(hY HB.out (IsS146.ge HI0.out))⟩;clear BKz1 BKz2 HI0 HK HB hq_;have BKz1:=nv1;have BKz2:=nv2;have HI0:=nv3;have HK:=nv4;have HB:=nv5;clear nv1 nv2 nv3 nv4 nv5));have hnbv3:=NBz2.out;have hncv3:=NBz1.out;have hczv4:=cZ3 BKz1.out;have hczq1:=cZ3 BKz2.out)
      refine bodyPost_ret (results_cell_row rfl _ _ gbz1 78 #[.int .i64 t105,.int .i64 x109001_19,.int .i64 0] (0,0) _ rfl (bP BKz1.out) Tryz.underlying78 rfl (by kernel_rfl)) rfl ?_
      exact⟨rE,(i146 HI0.out),(hY HB.out (IsS146.ge HI0.out)),(kX HK.out)⟩
     rw[if_pos rfl] at H
     replace H:=bE H;obtain⟨⟨t117,t118,t119⟩,A32,H⟩:=H
     try dsimp only at H
     simp only[Option.some.injEq,Prod.mk.injEq] at H
     obtain⟨rfl,rfl,rfl,rfl,rfl⟩:=H
     have hnbv1:=NBz4.out
     have hncv1:=NBz3.out
     have hnbv2:=NBz6.out
     have hncv2:=NBz5.out
     have hczv1:=cZ3 BKz2.out
     go_wp2_with (first | (refine gD 176 22 Tryz.func176 (Xap.calls _ _ _ A30.out) ?_;intro nd;(try (rw[drewN_self wc];generalize hq_:World.drewN wc _=wc;have nv1:Aside0 (wc.heap[gbz1]? = some (.cells #[.int .i64 0,.int .i64 0,.int .i64 0] 78 (0,0))):=⟨by rw[← hq_];exact(bX BKz1.out)⟩;have nv2:Aside0 (wc.heap[gbz2]? = some (.cells #[.int .i64 t105,.int .i64 x109001_19,.int .i64 0] 78 (0,0))):=⟨by rw[← hq_];exact(bX BKz2.out)⟩;have nv3:Aside0 (IsS146 w0 wc g s0_0 x1001_19 x1002_19):=⟨by rw[← hq_];exact(i146 HI0.out)⟩;have nv4:Aside0 (KeepBut w wc g none):=⟨by rw[← hq_];exact(kX HK.out)⟩;have nv5:Aside0 (Below w0.heap.size w0 wc):=⟨by rw[← hq_];exact(hY HB.out (IsS146.ge HI0.out))⟩;clear BKz1 BKz2 HI0 HK HB hq_;have BKz1:=nv1;have BKz2:=nv2;have HI0:=nv3;have HK:=nv4;have HB:=nv5;clear nv1 nv2 nv3 nv4 nv5));have hczq1:=cZ3 BKz2.out) | (refine goesM 76 24 Tryz.func76 #[.pointer (some ⟨g,0,none⟩),.int .i64 4] ?_;refine(Xj.calls g s0_0 x1001_19 x1002_19 4 t117 t118 t119 w0 _ (by repeat (first | (with_reducible first | exact HI0.out | apply IsS146.alloc | apply IsS146.drewN | apply IsS146.drew | apply IsS146.set_1 | apply IsS146.set_2 | refine IsS146.far ?_ NBz1.out _ | refine IsS146.far ?_ NBz5.out _) | exact HI0.out)) (by repeat (first | (with_reducible first | exact HB.out | apply below_alloc | apply pw_below_drewN | apply below_drew1 | refine below_set ?_ (IsS146.ge HI0.out) | refine below_set ?_ GEz1.out | refine below_set ?_ GEz2.out) | exact HB.out)) A32.out).mono ?_;rintro e wv1 ⟨rfl,hi,hb,hk⟩;refine⟨_,rfl,?_⟩;replace BKz1:=aM (KeepBut.blk hk (g':=gbz1) (o:=.cells #[.int .i64 0,.int .i64 0,.int .i64 0] 78 (0,0)) (bX BKz1.out) NBz2.out (by simp));replace BKz2:=aM (KeepBut.blk hk (g':=gbz2) (o:=.cells #[.int .i64 t105,.int .i64 x109001_19,.int .i64 0] 78 (0,0)) (bX BKz2.out) NBz6.out (by simp));replace HK:=aM (KeepBut.trans (kX HK.out) hk (.inl rfl));replace HB:=aM (hb);replace HI0:=aM (hi);clear hb hk hi;have hczv4:=cZ3 BKz2.out;have hnbv3:=NBz2.out;have hncv3:=NBz1.out;have hczv7:=cZ3 BKz1.out))
     refine bodyPost_ret (results_cell_row rfl _ _ gbz1 78 #[.int .i64 t105,.int .i64 x109001_19,.int .i64 (wrap64 (1+t117))] (0,0) _ rfl (bP BKz1.out) Tryz.underlying78 rfl (by kernel_rfl)) rfl ?_
     exact⟨rE,(i146 HI0.out),(hY HB.out (IsS146.ge HI0.out)),(kX HK.out)⟩
end Go.Proofs.YthejoblnfpaojaaGreat.P
namespace Go.Proofs.YthejoblnfpaojaaGreat.P
open Go.RowKit Go.Proofs.YthejoblnfpaojaaGreatW.PrintWords Go.Proofs.YthejoblnfpaojaaGreatW.PrintLast Go.Proofs.YthejoblnfpaojaaGreatZ
abbrev mW:=S51
abbrev mD:=S58
abbrev mE:=S63
def entL:List mE→Int→Int × Int × Int × Bool
 | [],_=>(0,0,0,false)
 | e :: r,a=>if e.f0=a then (e.f0,e.f1,e.f2,true) else entL r a
theorem rdE_at {l:List mE} {i:Nat} (h:i<l.length):rd_T63 l (i:Int)=l[i]:=getD_get (List.getElem?_eq_getElem h)
theorem XaX (a b:Int) (l:List mE) (c:Int) (q:List Int) (v:Int) (hl:l.length≤9223372036854775807):Ev (fun k=>XO.f k a b l c q v) (entL l v):=by
 simp only[XO.f]
 refine(back (n:=l.length) (Q:=fun i=>Ev (fun k=>XO.l0 k v (i:Int) a b l c q) (entL (l.drop i) v)) ?_ (fun i hi ih => ?_) 0 (Nat.zero_le _))
 ·refine Ev.shift ?_
  simp only[XO.l0,Int.lt_irrefl,if_false,List.drop_length,entL]
  exact Ev.now _
 ·have c0:(0:Int)≤(i:Int):=by omega
  have c1:(i:Int)<(l.length:Int):=by omega
  refine Ev.shift ?_
  rw[List.drop_eq_getElem_cons hi]
  simp only[XO.l0,c0,c1,if_true,rdE_at hi,entL,succ64 hi hl]
  by_cases h:l[i].f0=v
  ·simp only[h,if_true];exact Ev.now _
  ·simp only[h,if_false];exact ih
theorem XaY (a b:Int) (l:List mE) (c:Int) (q:List Int) (v:Int) (hl:l.length≤9223372036854775807):Ev (fun k=>XN.f k a b l c q v) (entL l v):=by
 simp only[XN.f]
 refine(back (n:=l.length) (Q:=fun i=>Ev (fun k=>XN.l0 k v l (l.length:Int) (i:Int)) (entL (l.drop i) v)) ?_ (fun i hi ih => ?_) 0 (Nat.zero_le _))
 ·refine Ev.shift ?_
  simp only[XN.l0,Int.lt_irrefl,if_false,List.drop_length,entL]
  exact Ev.now _
 ·have c0:(0:Int)≤(i:Int):=by omega
  have c1:(i:Int)<(l.length:Int):=by omega
  refine Ev.shift ?_
  rw[List.drop_eq_getElem_cons hi]
  simp only[XN.l0,c0,c1,if_true,rdE_at hi,entL,succ64 hi hl]
  by_cases h:l[i].f0=v
  ·simp only[h,if_true];exact Ev.now _
  ·simp only[h,if_false];exact ih
theorem l1PickInt_got {b:List Int} {i:Int} (h:okC b i) (c:Int) (l:List Int) (hl:l ≠ []):Got (XT.f b i c l) (fun r=>r.1 ∈ l∧okC b r.2.1):=by
 have hp:=List.length_pos_iff.mpr hl
 simp only[XT.f]
 refine(l1Below_got h c _).bind (fun r hr=>Got.pos hr.1 (Got.pos (hr.2.1 (by omega)) (Got.now ⟨?_,hr.2.2.2⟩)))
 have h1:=hr.1
 have h2:=hr.2.1 (by omega)
 obtain⟨n,hn⟩:∃ n:Nat,r.1=(n:Int):=⟨r.1.toNat,by omega⟩
 have hlt:n<l.length:=by omega
 show rd l r.1 ∈ l
 rw[hn,rd_get (List.getElem?_eq_getElem hlt)]
 exact List.getElem_mem hlt
end Go.Proofs.YthejoblnfpaojaaGreat.P
