/- A part of the proof of the law FnStarts: texts of this seat, merged (words, printed functions of the program, plain lemmas). Conditions: none of its own. -/
import Derived.Test.YthejoblnfpaojaaGreatPkFnStarts30
import Derived.Test.YthejoblnfpaojaaGreatPkFnStarts31
set_option linter.unusedSimpArgs false
set_option linter.unusedVariables false
set_option maxHeartbeats 8000000
set_option maxRecDepth 100000
namespace Go.Proofs.YthejoblnfpaojaaGreat.P
open Go.Proofs.YthejoblnfpaojaaGreatZ Go.RowKit Go.Proofs.YthejoblnfpaojaaGreatW.PrintWords Go.Proofs.YthejoblnfpaojaaGreatW.PrintLast Go.Proofs.YthejoblnfpaojaaGreatW.PrintMore
attribute [local go_sem] max2_int min2_int max_two min_two max_three min_three max_four min_four   -- for this text's walks alone
def Xz.f (k:Nat) (l0:List Int):Option (List Int × Int × (List (List (S78)))):=(X8.f k l0).bind fun bt102=>((XaK.f k bt102.1 bt102.2.1 bt102.2.2).bind fun bt106=>((Xs.f k bt102.1 bt106.2.2.1 bt106.2.2.2).bind fun bt113=>((Xj.f bt102.1 bt113.2.1 bt113.2.2 10).bind fun bt118=>(if bt118.1=0 then ((XaL.f k bt102.1 bt118.2.1 bt118.2.2).bind fun bt121=>(if bt113.1.length<5864062014805 then (some (bt106.1,bt106.2.1,(bt113.1 ++ [(([(⟨bt121.1,bt121.2.1,bt121.2.2.1⟩:S78)]:List (S78)))]))) else (none))) else (if bt118.1=1 then ((some (([[],[],[]]:List (List (S78))):List (List (S78)))).bind fun y132=>(if bt113.1.length+y132.length<5864062014805 then (some (bt106.1,bt106.2.1,(bt113.1 ++ y132))) else (none))) else (some (bt106.1,bt106.2.1,bt113.1)))))))
def Xz.T6:Bool × List (List Nat × List Nat):=(true,[([],[]),([],[]),([],[]),([2],[2]),([3],[3]),([4],[4]),([1,5,3],[1,5]),([0,6,0],[0]),([6,7,0,1,2,3,4,5,6,7],[6])])
def Xz.B6:List Nat:=[0,0,0,4,12,28,62,127,255]
theorem Xz.tab6:rtab .any (opsOf Tryz.f9 6)=Xz.T6:=by kernel_rfl
theorem Xz.bits6:waitsOk Xz.T6.2 Xz.B6=true:=by kernel_rfl
theorem Xz.calls (k:Nat) (A0:Option Addr) (c0:Nat) (l0:List Int) (r1:List Int) (r2:Int) (r3:List (List (S78))) (w:World) (h0:Rw (Kd.int .u8) w A0 c0 l0) (h:Xz.f k l0=some (r1,r2,r3)) :
  Calls Tryz.prog 9 #[.slice A0 l0.length c0] w fun e w'=>∃ v0_ v2_:Value,e = .returned (.tuple #[.agg #[v0_,.int .i64 r2],v2_])∧Kd.R (Kd.int .i64) 3 w' w.heap.size (fun k_=>(w.heap.size≤k_)) v0_ r1∧Kd.N (Kd.slice 78 k78) 103 w' w.heap.size (fun k_=>(w.heap.size≤k_)∧some k_ ≠ (v0_:Value).ownBlock) v2_ r3∧Below w.heap.size w w':=by
 have hu26:=Tryz.underlying26
 obtain⟨HR0,HC0⟩:=h0
 have HB:=aM (Below.refl w.heap.size w)
 have H:=h
 unfold Xz.f at H
 clear h
 replace H:=bE H;obtain⟨⟨t102,t103,t104⟩,A2,H⟩:=H
 try dsimp only at H
 replace H:=bE H;obtain⟨⟨t106,t109,t110,t111⟩,A3,H⟩:=H
 try dsimp only at H
 replace H:=bE H;obtain⟨⟨t113,t116,t117⟩,A4,H⟩:=H
 try dsimp only at H
 replace H:=bE H;obtain⟨⟨t118,t119,t120⟩,A5,H⟩:=H
 try dsimp only at H
 go_enter Tryz.func9,Tryz.ntmps9
 go_wp2_with (first | (refine boxE 2 #[.slice none 0 0,.int .i64 0] 26 ?_;intro gbz1 hg wz1 hbox hb;have BKz1:=aM (hbox);have GWz1:=aG hg HB;have GEz1:=aG hg HB;replace HB:=aS HB hb;clear hb hbox hg) | (refine goesM 73 8 Tryz.func73 #[.slice A0 l0.length c0] ?_;refine(X8.calls k _ _ l0 t102 t103 t104 w _ (by repeat (first | (with_reducible first | exact HB.out | apply below_alloc | apply pw_below_drewN | apply below_drew1 | refine below_set ?_ GEz1.out) | exact HB.out)) HR0.out HC0.out A2.out).mono ?_;rintro e wz2 ⟨gz1,rfl,hi,hb,hbz1⟩;refine⟨_,rfl,?_⟩;have HIz1:=aM (hi);have NBz1:=aM (IsS146.ne_blk hi (blk_below (g:=gbz1) (o:=.cells #[.slice none 0 0,.int .i64 0] 26 (0,0)) (bX BKz1.out) hbz1) (by decide));have NBz2:=aM (Ne.symm (IsS146.ne_blk hi (blk_below (g:=gbz1) (o:=.cells #[.slice none 0 0,.int .i64 0] 26 (0,0)) (bX BKz1.out) hbz1) (by decide)));replace BKz1:=aM (blk_below (g:=gbz1) (o:=.cells #[.slice none 0 0,.int .i64 0] 26 (0,0)) (bX BKz1.out) hbz1);replace HB:=aM (hb);clear hb hbz1 hi) | (refine goesM 74 10 Tryz.func74 #[.pointer (some ⟨gz1,0,none⟩)] ?_;refine(XaK.calls k gz1 t102 t103 t104 t106 t109 t110 t111 w _ (by repeat (first | (with_reducible first | exact HIz1.out | apply IsS146.alloc | apply IsS146.drewN | apply IsS146.drew | apply IsS146.set_1 | apply IsS146.set_2 | refine IsS146.far ?_ NBz1.out _) | exact HIz1.out)) (by repeat (first | (with_reducible first | exact HB.out | apply below_alloc | apply pw_below_drewN | apply below_drew1 | refine below_set ?_ (IsS146.ge HIz1.out) | refine below_set ?_ GEz1.out) | exact HB.out)) A3.out).mono ?_;rintro e wz3 ⟨vz1,rfl,hoz1,hi,hb,hk⟩;refine⟨_,rfl,?_⟩;have HOz1:=aM (Kd.R_lower (Kd.R_newM (M:=fun k_=>(w.heap.size≤k_)) hoz1 (below_size (hY HB.out (IsS146.ge HIz1.out))) (fun k_ h_=>h_)) (below_size (hY HB.out (IsS146.ge HIz1.out))));replace BKz1:=aM (KeepBut.blk hk (g':=gbz1) (o:=.cells #[.slice none 0 0,.int .i64 0] 26 (0,0)) (bX BKz1.out) NBz2.out (by simp));replace HB:=aM (hb);replace HIz1:=aM (hi);clear hb hk hi hoz1) | (refine boxE 5 #[.slice none 0 0,.int .i64 0] 26 ?_;intro gbz2 hg wz4 hbox hb;have BKz2:=aM (hbox);have GWz2:=aM (gX' hg (hY HB.out (IsS146.ge HIz1.out)));have GEz2:=aM (gX' hg (hY HB.out (IsS146.ge HIz1.out)));have NBz3:=aL hg BKz1;have NBz4:=aR hg BKz1;have NBz5:=aM ((by rw[hg];exact Nat.ne_of_lt (IsS146.lt (show IsS146 w _ gz1 t102 t110 t111 from (i146 HIz1.out))):gz1 ≠ gbz2));have NBz6:=aM ((by rw[hg];exact Nat.ne_of_gt (IsS146.lt (show IsS146 w _ gz1 t102 t110 t111 from (i146 HIz1.out))):gbz2 ≠ gz1));replace HOz1:=aQ HOz1 hb;replace BKz1:=aB BKz1 hb;replace HB:=aM (below_step (hY HB.out (IsS146.ge HIz1.out)) hb);replace HIz1:=aM (IsS146.below (i146 HIz1.out) hb);clear hb hbox hg;obtain⟨Aoz1,coz1,eoz1⟩:=Kd.R_slice HOz1.out;subst eoz1;have hnbz1:=nB NBz4 NBz3;have hnbz2:=nB NBz6 NBz5;have hczz1:=cZ2 BKz2.out) | (refine goesM 75 12 Tryz.func75 #[.pointer (some ⟨gz1,0,none⟩)] ?_;refine(Xs.calls k gz1 t102 t110 t111 t113 t116 t117 w _ (by repeat (first | (with_reducible first | exact HIz1.out | apply IsS146.alloc | apply IsS146.drewN | apply IsS146.drew | apply IsS146.set_1 | apply IsS146.set_2 | refine IsS146.far ?_ NBz1.out _ | refine IsS146.far ?_ NBz5.out _) | exact HIz1.out)) (by repeat (first | (with_reducible first | exact HB.out | apply below_alloc | apply pw_below_drewN | apply below_drew1 | refine below_set ?_ (IsS146.ge HIz1.out) | refine below_set ?_ GEz1.out | refine below_set ?_ GEz2.out) | exact HB.out)) A4.out).mono ?_;rintro e wz5 ⟨vz2,rfl,hoz1,hi,hb,hk⟩;refine⟨_,rfl,?_⟩;have HOz2:=aM (Kd.N_lower (Kd.N_mono (ok':=fun k_=>(w.heap.size≤k_)∧some k_ ≠ (.slice Aoz1 t106.length coz1:Value).ownBlock∧k_ ≠ gbz1∧k_ ≠ gbz2∧k_ ≠ gz1) (Kd.S_N (Kd.S_bound hoz1)) (fun k_ hk_=>⟨(Nat.le_trans (below_size (hY HB.out (IsS146.ge HIz1.out))) hk_.2.1),(Kd.fresh' (Kd.R_lt (rF HOz1.out BKz2.out)) k_ hk_.2.1),(Kd.freshB (g:=gbz1) (o:=.cells #[.slice none 0 0,.int .i64 0] 26 (0,0)) (bF BKz1.out) k_ hk_.2.1),(Kd.freshB (g:=gbz2) (o:=.cells #[.slice Aoz1 t106.length coz1,.int .i64 t109] 26 (0,0)) (bP BKz2.out) k_ hk_.2.1),(IsS146.fresh (i146 HIz1.out) k_ hk_.2.1)⟩)) (below_size (hY HB.out (IsS146.ge HIz1.out))));replace BKz1:=aM (KeepBut.blk hk (g':=gbz1) (o:=.cells #[.slice none 0 0,.int .i64 0] 26 (0,0)) (bF BKz1.out) NBz2.out (by simp));replace HOz1:=aM (Kd.R_mono (Kd.R_keep (IsS146.apart (show IsS146 w _ gz1 t102 t110 t111 from (i146 HIz1.out)) (rF HOz1.out BKz2.out) (by decide)) hk (fun _ h=>h.2)) (fun _ h=>h.1));replace BKz2:=aM (KeepBut.blk hk (g':=gbz2) (o:=.cells #[.slice Aoz1 t106.length coz1,.int .i64 t109] 26 (0,0)) (bP BKz2.out) NBz6.out (by simp));replace HB:=aM (hb);replace HIz1:=aM (hi);clear hb hk hi hoz1;refine Stop.out ?_))
 refine⟨?_⟩
 revert H;refine eP ?_ ?_<;>intro c6b0 c6b1 H
 ·replace H:=bE H;obtain⟨⟨t121,t122,t123,t124,t125⟩,A7,H⟩:=H
  try dsimp only at H
  obtain⟨y126,hy126⟩:∃ y_:List (S78),y_=(([(⟨t121,t122,t123⟩:S78)]:List (S78))):=⟨_,rfl⟩
  replace H:(if t113.length<5864062014805 then (some (t106,t109,(t113 ++ [y126]))) else (none))=some (r1,r2,r3):=yH H hy126
  have Ny126:=aM hy126
  clear hy126
  replace H:=ifP H;obtain⟨c8,H⟩:=H
  have LMc8:=aM c8
  clear c8
  obtain⟨y129,hy129⟩:∃ y_:List (List (S78)),y_=(t113 ++ [y126]):=⟨_,rfl⟩
  replace H:(some (t106,t109,y129))=some (r1,r2,r3):=yH H hy129
  have Ny129:=aM hy129
  clear hy129
  simp only[Option.some.injEq,Prod.mk.injEq] at H
  obtain⟨rfl,rfl,rfl⟩:=H
  try go_wp2_with (refine goesM 76 14 Tryz.func76 #[.pointer (some ⟨gz1,0,none⟩),.int .i64 10] ?_;refine(Xj.calls gz1 t102 t116 t117 10 t118 t119 t120 w _ (by repeat (first | (with_reducible first | exact HIz1.out | apply IsS146.alloc | apply IsS146.drewN | apply IsS146.drew | apply IsS146.set_1 | apply IsS146.set_2 | refine IsS146.far ?_ NBz1.out _ | refine IsS146.far ?_ NBz5.out _) | exact HIz1.out)) (by repeat (first | (with_reducible first | exact HB.out | apply below_alloc | apply pw_below_drewN | apply below_drew1 | refine below_set ?_ (IsS146.ge HIz1.out) | refine below_set ?_ GEz1.out | refine below_set ?_ GEz2.out) | exact HB.out)) A5.out).mono ?_;rintro e wz6 ⟨rfl,hi,hb,hk⟩;refine⟨_,rfl,?_⟩;replace BKz1:=aM (KeepBut.blk hk (g':=gbz1) (o:=.cells #[.slice none 0 0,.int .i64 0] 26 (0,0)) (bX BKz1.out) NBz2.out (by simp));replace HOz1:=aM (Kd.R_mono (Kd.R_keep (IsS146.apart (show IsS146 w _ gz1 t102 t116 t117 from (i146 HIz1.out)) (rX HOz1.out) (by decide)) hk (fun _ h=>h.2)) (fun _ h=>h.1));replace BKz2:=aM (KeepBut.blk hk (g':=gbz2) (o:=.cells #[.slice Aoz1 t106.length coz1,.int .i64 t109] 26 (0,0)) (bX BKz2.out) NBz6.out (by simp));replace HOz2:=aM (Kd.N_mono (Kd.N_keep (Kd.N_mono (ok:=fun k_=>(((w.heap.size≤k_))∧(some k_ ≠ (.slice Aoz1 t106.length coz1:Value).ownBlock∧(k_ ≠ gbz1∧(k_ ≠ gbz2∧k_ ≠ gz1))))) (nX HOz2.out) (fun k_ hk_=>(⟨hk_,hk_.2.2.2.2⟩:_∧k_ ≠ gz1))) hk (fun _ h=>h.2)) (fun _ h=>h.1));replace HB:=aM (hb);replace HIz1:=aM (hi);clear hb hk hi)
  replace HOz1:=aM (Kd.R_drew HOz1.out)
  replace HOz2:=aM (Kd.N_drew HOz2.out)
  replace BKz1:=aM (blk_drew BKz1.out)
  replace BKz2:=aM (blk_drew BKz2.out)
  replace HIz1:=aM (IsS146.drew HIz1.out)
  replace HB:=aM (below_drew1 HB.out)
  refine start_ (n:=9) (S:=fun w'=>w'.cell? ⟨gbz2,0,none⟩=some (.slice Aoz1 t106.length coz1)∧w'.cell? ⟨gbz2,1,none⟩=some (.int .i64 t109)) (ds:=[]) (bm 9 0) (by kernel_rfl) rfl (by kernel_rfl) ⟨cK BKz2.out 0,cK BKz2.out 1⟩ (fun hHeld => ?_);refine with_tabW Xz.tab6 Xz.bits6 (fun HT_ HW_ => ?_)
  generalize wz6.drew=wz7 at HOz1 HOz2 BKz1 BKz2 HIz1 HB hHeld ⊢
  refine pZ 1 18 (bm 9 2) HT_.out ?_
  refine pZ 2 19 (bm 9 6) HT_.out ?_
  refine tZ 0 17 (bm 9 7) HT_.out HW_.out hHeld ?_
  refine oZ 3 (some 20) (bm 9 15) HT_.out (fun K hK => ?_)
  refine goesN Tryz.func77 #[.pointer (some ⟨gz1,0,none⟩)] ?_
  with_reducible refine(XaL.calls k gz1 t102 t119 t120 t121 t122 t123 t124 t125 w _ ?side1 ?side2 A7.out).mono ?_
  (case side1=>repeat (first | (with_reducible first | exact HIz1.out | apply IsS146.alloc | apply IsS146.drewN | apply IsS146.drew | apply IsS146.set_1 | apply IsS146.set_2 | refine IsS146.far ?_ NBz1.out _ | refine IsS146.far ?_ NBz5.out _) | exact HIz1.out))
  (case side2=>repeat (first | (with_reducible first | exact HB.out | apply below_alloc | apply pw_below_drewN | apply below_drew1 | refine below_set ?_ (IsS146.ge HIz1.out) | refine below_set ?_ GEz1.out | refine below_set ?_ GEz2.out) | exact HB.out))
  rintro e wz8 ⟨rfl,hi,hb,hk⟩
  refine⟨_,rfl,?_⟩
  replace BKz1:=aM (KeepBut.blk hk (g':=gbz1) (o:=.cells #[.slice none 0 0,.int .i64 0] 26 (0,0)) (bX BKz1.out) NBz2.out (by simp))
  replace HOz1:=aM (Kd.R_mono (Kd.R_keep (IsS146.apart (show IsS146 w _ gz1 t102 t119 t120 from (i146 HIz1.out)) (rX HOz1.out) (by decide)) hk (fun _ h=>h.2)) (fun _ h=>h.1))
  replace BKz2:=aM (KeepBut.blk hk (g':=gbz2) (o:=.cells #[.slice Aoz1 t106.length coz1,.int .i64 t109] 26 (0,0)) (bX BKz2.out) NBz6.out (by simp))
  replace HOz2:=aM (Kd.N_mono (Kd.N_keep (Kd.N_mono (ok:=fun k_=>(((w.heap.size≤k_))∧(some k_ ≠ (.slice Aoz1 t106.length coz1:Value).ownBlock∧(k_ ≠ gbz1∧(k_ ≠ gbz2∧k_ ≠ gz1))))) (nX HOz2.out) (fun k_ hk_=>(⟨hk_,hk_.2.2.2.2⟩:_∧k_ ≠ gz1))) hk (fun _ h=>h.2)) (fun _ h=>h.1))
  replace HB:=aM (hb)
  replace HIz1:=aM (hi)
  (try clear hb)
  (try clear hbz1)
  (try clear hk)
  (try clear hi)
  refine hK.out _ _ ⟨cK BKz2.out 0,cK BKz2.out 1⟩ (fun hHeld => ?_)
  clear hK K
  refine nZ 20 ?_
  refine oZ 4 (some 21) (bm 9 31) HT_.out (fun K hK => ?_)
  refine Kd.R_lit_step k78 _ 78 ?hg (N:=21) ?hd (xs:=([(⟨t121,t122,t123⟩:S78)]:List (S78))) (inner:=[.int .i64 t121,.int .i64 t122,.int .i64 t123]) (ok:=fun _=>True) (okp:=fun _=>True) ?hr ?hp (fun _ hk=>hk) trivial (Below.refl _ _) (Nat.le_refl _) (by simp) ?_;(case hd=>rfl);(case hg=>rfl);(case hr=>first | (go_simp;done) | (go_simp;rfl));(case hp=>exact(Reps.c3 (show Kd.M k78 _ _ _ (⟨t121,t122,t123⟩:S78) [.int .i64 t121,.int .i64 t122,.int .i64 t123] from (k78_mkM _ _ _ (⟨t121,t122,t123⟩:S78) )) (Reps.none _ _)))
  intro vz3 wz9 hoz2 hb hg_ hnew_
  clear hg_ hnew_
  (first | rw[← Ny126.out] at hoz2 | (simp only[Int.reduceToNat] at hoz2;rw[← Ny126.out] at hoz2))
  have HOz3:=aM (Kd.R_lower (Kd.R_newM (M:=fun k_=>(w.heap.size≤k_)) hoz2 (below_size (hY HB.out (IsS146.ge HIz1.out))) (fun k_ h_=>h_)) (below_size (hY HB.out (IsS146.ge HIz1.out))))
  replace HOz1:=aQ HOz1 hb
  replace HOz2:=aM (Kd.N_elder' (nX HOz2.out) (Kd.R_base hoz2) hb)
  replace BKz1:=aB BKz1 hb
  replace BKz2:=aB BKz2 hb
  replace HB:=aM (below_step (hY HB.out (IsS146.ge HIz1.out)) hb)
  replace HIz1:=aM (IsS146.below (i146 HIz1.out) hb)
  clear hb hoz2
  obtain⟨Aoz2,coz2,eoz2⟩:=Kd.R_slice HOz3.out
  (first | subst eoz2 | (injection eoz2 with f1_ f2_ f3_;have fz1:=f1_.symm;have fz2:=f3_.symm;clear f1_ f2_ f3_;subst fz1;subst fz2))
  refine hK.out _ _ ⟨cK BKz2.out 0,cK BKz2.out 1⟩ (fun hHeld => ?_)
  clear hK K
  refine nZ 21 ?_
  refine oZ 5 (some 22) (bm 9 63) HT_.out (fun K hK => ?_)
  refine vZ ?_
  refine hK.out _ _ ⟨(blk_cell (blk_alloc BKz2.out _) 0).trans rfl,(blk_cell (blk_alloc BKz2.out _) 1).trans rfl⟩ (fun hHeld => ?_)
  clear hK K
  refine nZ 22 ?_
  refine oZ 6 (some 23) (bm 9 127) HT_.out (fun K hK => ?_)
  refine Kd.N_append_step (Kd.slice 78 k78) (w0:=w) w.heap.size (by rfl) (.tmp 18) (.tmp 22) 27 103 (.slice none 0 0) 24 rfl Tryz.underlying27 info103 rfl (by decide) (by omega) vz2 t113 y126 [.slice Aoz2 y126.length coz2] (fun k_=>(w.heap.size≤k_)∧some k_ ≠ (.slice Aoz1 t106.length coz1:Value).ownBlock∧k_ ≠ gbz1∧k_ ≠ gbz2∧k_ ≠ gz1) (fun k_=>((fun k_=>(w.heap.size≤k_)∧some k_ ≠ (.slice Aoz1 t106.length coz1:Value).ownBlock∧k_ ≠ gbz1∧k_ ≠ gbz2∧k_ ≠ gz1)) k_∧some k_ ≠ (vz2:Value).ownBlock) rfl rfl ?aP (fun _ hk=>hk) ?aF ?aO ?aB ?aS ?aL ?_
  (case aP=>exact(Kd.FK_slice_mk (Kd.R_reads' (Kd.R_mono (ok':=(fun k_=>((fun k_=>(w.heap.size≤k_)∧some k_ ≠ (.slice Aoz1 t106.length coz1:Value).ownBlock∧k_ ≠ gbz1∧k_ ≠ gbz2∧k_ ≠ gz1)) k_∧some k_ ≠ (vz2:Value).ownBlock)) (IsS146.apart HIz1.out (Kd.R_types (Kd.R_types (Kd.R_apart' (Kd.R_apart' (HOz3.out) (Kd.R_typed HOz1.out) (by decide)) (Kd.N_typed HOz2.out) (by decide)) BKz1.out (by decide)) BKz2.out (by decide)) (by decide)) (fun k_ hk=>⟨⟨hk.1.1.1.1.1.1,⟨hk.1.1.1.1.2,⟨hk.1.1.2,⟨hk.1.2,hk.2⟩⟩⟩⟩,hk.1.1.1.2⟩))).2.1 (Kd.R_F (Kd.R_mono (ok':=(fun k_=>((fun k_=>(w.heap.size≤k_)∧some k_ ≠ (.slice Aoz1 t106.length coz1:Value).ownBlock∧k_ ≠ gbz1∧k_ ≠ gbz2∧k_ ≠ gz1)) k_∧some k_ ≠ (vz2:Value).ownBlock)) (IsS146.apart HIz1.out (Kd.R_types (Kd.R_types (Kd.R_apart' (Kd.R_apart' (HOz3.out) (Kd.R_typed HOz1.out) (by decide)) (Kd.N_typed HOz2.out) (by decide)) BKz1.out (by decide)) BKz2.out (by decide)) (by decide)) (fun k_ hk=>⟨⟨hk.1.1.1.1.1.1,⟨hk.1.1.1.1.2,⟨hk.1.1.2,⟨hk.1.2,hk.2⟩⟩⟩⟩,hk.1.1.1.2⟩)))))
  (case aB=>exact(hY HB.out (IsS146.ge HIz1.out)))
  (case aF=>exact(fun k_ hk=>⟨(Nat.le_trans (below_size (hY HB.out (IsS146.ge HIz1.out))) hk),Kd.fresh' (Kd.R_lt (rX HOz1.out)) k_ hk,Kd.freshB (g:=gbz1) (o:=.cells #[.slice none 0 0,.int .i64 0] 26 (0,0)) (bX BKz1.out) k_ hk,Kd.freshB (g:=gbz2) (o:=.cells #[.slice Aoz1 t106.length coz1,.int .i64 t109] 26 (0,0)) (bX BKz2.out) k_ hk,IsS146.fresh (i146 HIz1.out) k_ hk⟩))
  (case aO=>exact(nT (h:=by exact Kd.N_mono HOz2.out (fun _ hk=>⟨hk.1.1,⟨hk.1.2.1,⟨hk.1.2.2.1,⟨hk.1.2.2.2.1,hk.1.2.2.2.2⟩⟩⟩⟩))))
  (case aS=>exact(below_size (hY HB.out (IsS146.ge HIz1.out))))
  (case aL=>have:=LMc8.out;omega)
  intro vz4 wz10 ho hb hg hat
  rw[← Ny129.out] at ho
  have HOz4:=aM (ho)
  replace BKz1:=aM (blk_grown (g:=gbz1) (o:=.cells #[.slice none 0 0,.int .i64 0] 26 (0,0)) (bX BKz1.out) hg (Kd.N_ne HOz2.out BKz1.out (by decide)))
  replace HIz1:=aM (IsS146.grown (i146 HIz1.out) hg (IsS146.own_neN HIz1.out HOz2.out (by decide)))
  replace HOz1:=aM (Kd.R_over' (rX HOz1.out) (Kd.N_typed (nX HOz2.out)) (by decide) hg)
  replace BKz2:=aM (blk_grown (g:=gbz2) (o:=.cells #[.slice Aoz1 t106.length coz1,.int .i64 t109] 26 (0,0)) (bX BKz2.out) hg (Kd.N_ne HOz2.out BKz2.out (by decide)))
  replace HB:=aM (hb)
  clear HOz2 HOz3
  clear ho hb hg hat
  refine hK.out _ _ ⟨cK BKz2.out 0,cK BKz2.out 1⟩ (fun hHeld => ?_)
  clear hK K
  refine nZ 23 ?_
  refine oZ 7 none (bm 9 255) HT_.out (fun K hK => ?_)
  have hsz1:wz10.cell? ⟨gbz1,0,none⟩=some (.slice none 0 0):=(blk_cell BKz1.out 0).trans rfl
  have hfsz1:=blk_frozen BKz1.out 0
  have hnsz1:=NBz4.out
  have hmsz1:=NBz3.out
  have hsz2:wz10.cell? ⟨gbz1,1,none⟩=some (.int .i64 0):=(blk_cell BKz1.out 1).trans rfl
  have hfsz2:=blk_frozen BKz1.out 1
  have hnsz2:=NBz4.out
  have hmsz2:=NBz3.out
  refine skip_ (w1:=?_) (by rfl) rfl ?_ ?_
  rotate_left
  ·go_simp
   rfl
  refine hK.out _ _ ⟨(fA NBz4.out hHeld.1),(fA NBz4.out hHeld.2)⟩ (fun hHeld => ?_)
  clear hK K
  refine pZ 8 3 (bm 9 511) HT_.out ?_
  refine done_ (done_of HT_.out (by kernel_rfl)) ?_
  try go_wp2
  refine bodyPost_ret (results_ct rfl _ _ gbz1 26 #[.slice Aoz1 t106.length coz1,.int .i64 t109] (0,0) _ rfl (bP BKz1.out) Tryz.underlying26 rfl (by kernel_rfl)) rfl ?_
  exact⟨_,_,rE,(Kd.R_mono (rF HOz1.out BKz1.out) (fun _ hk=>hk.1)),(nT (h:=by exact Kd.N_mono (Kd.N_far (p:=⟨gbz1,1,none⟩) (Kd.N_far (p:=⟨gbz1,0,none⟩) (Kd.N_mono HOz4.out (fun k_ hk=>(⟨hk,hk.2.2.1⟩:_∧k_ ≠ gbz1))) (fun _ hk=>hk.2) (.slice Aoz1 t106.length coz1)) (fun _ hk=>hk.2) (.int .i64 t109)) (fun _ hk=>⟨hk.1.1,hk.1.2.1⟩))),(hY HB.out (IsS146.ge HIz1.out))⟩
 revert H;refine eN ?_ ?_<;>intro c27b0 c27b1 H
 ·simp only[Option.some.injEq,Prod.mk.injEq] at H
  obtain⟨rfl,rfl,rfl⟩:=H
  go_wp2_with (refine goesM 76 14 Tryz.func76 #[.pointer (some ⟨gz1,0,none⟩),.int .i64 10] ?_;refine(Xj.calls gz1 t102 t116 t117 10 t118 t119 t120 w _ (by repeat (first | (with_reducible first | exact HIz1.out | apply IsS146.alloc | apply IsS146.drewN | apply IsS146.drew | apply IsS146.set_1 | apply IsS146.set_2 | refine IsS146.far ?_ NBz1.out _ | refine IsS146.far ?_ NBz5.out _) | exact HIz1.out)) (by repeat (first | (with_reducible first | exact HB.out | apply below_alloc | apply pw_below_drewN | apply below_drew1 | refine below_set ?_ (IsS146.ge HIz1.out) | refine below_set ?_ GEz1.out | refine below_set ?_ GEz2.out) | exact HB.out)) A5.out).mono ?_;rintro e wz6 ⟨rfl,hi,hb,hk⟩;refine⟨_,rfl,?_⟩;replace BKz1:=aM (KeepBut.blk hk (g':=gbz1) (o:=.cells #[.slice none 0 0,.int .i64 0] 26 (0,0)) (bX BKz1.out) NBz2.out (by simp));replace HOz1:=aM (Kd.R_mono (Kd.R_keep (IsS146.apart (show IsS146 w _ gz1 t102 t116 t117 from (i146 HIz1.out)) (rX HOz1.out) (by decide)) hk (fun _ h=>h.2)) (fun _ h=>h.1));replace BKz2:=aM (KeepBut.blk hk (g':=gbz2) (o:=.cells #[.slice Aoz1 t106.length coz1,.int .i64 t109] 26 (0,0)) (bX BKz2.out) NBz6.out (by simp));replace HOz2:=aM (Kd.N_mono (Kd.N_keep (Kd.N_mono (ok:=fun k_=>(((w.heap.size≤k_))∧(some k_ ≠ (.slice Aoz1 t106.length coz1:Value).ownBlock∧(k_ ≠ gbz1∧(k_ ≠ gbz2∧k_ ≠ gz1))))) (nX HOz2.out) (fun k_ hk_=>(⟨hk_,hk_.2.2.2.2⟩:_∧k_ ≠ gz1))) hk (fun _ h=>h.2)) (fun _ h=>h.1));replace HB:=aM (hb);replace HIz1:=aM (hi);clear hb hk hi;have hczz3:=cZ2 BKz2.out;have hnbz3:=nB NBz2 NBz1;have hczz5:=cZ2 BKz1.out)
  refine bodyPost_ret (results_ct rfl _ _ gbz1 26 #[.slice Aoz1 t106.length coz1,.int .i64 t109] (0,0) _ rfl (bP BKz1.out) Tryz.underlying26 rfl (by kernel_rfl)) rfl ?_
  exact⟨_,_,rE,(Kd.R_mono (rF HOz1.out BKz1.out) (fun _ hk=>hk.1)),(nT (h:=by exact Kd.N_mono (Kd.N_far (p:=⟨gbz1,1,none⟩) (Kd.N_far (p:=⟨gbz1,0,none⟩) (Kd.N_mono HOz2.out (fun k_ hk=>(⟨hk,hk.2.2.1⟩:_∧k_ ≠ gbz1))) (fun _ hk=>hk.2) (.slice Aoz1 t106.length coz1)) (fun _ hk=>hk.2) (.int .i64 t109)) (fun _ hk=>⟨hk.1.1,hk.1.2.1⟩))),(hY HB.out (IsS146.ge HIz1.out))⟩
 obtain⟨y132,hy132⟩:∃ y_:List (List (S78)),y_=(([[],[],[]]:List (List (S78)))):=⟨_,rfl⟩
 replace H:(if t113.length+y132.length<5864062014805 then (some (t106,t109,(t113 ++ y132))) else (none))=some (r1,r2,r3):=yH H hy132
 have Ny132:=aM hy132
 clear hy132
 replace H:=ifP H;obtain⟨c28,H⟩:=H
 have LMc28:=aM c28
 clear c28
 obtain⟨y135,hy135⟩:∃ y_:List (List (S78)),y_=(t113 ++ y132):=⟨_,rfl⟩
 replace H:(some (t106,t109,y135))=some (r1,r2,r3):=yH H hy135
 have Ny135:=aM hy135
 clear hy135
 simp only[Option.some.injEq,Prod.mk.injEq] at H
 obtain⟨rfl,rfl,rfl⟩:=H
 try go_wp2_with (refine goesM 76 14 Tryz.func76 #[.pointer (some ⟨gz1,0,none⟩),.int .i64 10] ?_;refine(Xj.calls gz1 t102 t116 t117 10 t118 t119 t120 w _ (by repeat (first | (with_reducible first | exact HIz1.out | apply IsS146.alloc | apply IsS146.drewN | apply IsS146.drew | apply IsS146.set_1 | apply IsS146.set_2 | refine IsS146.far ?_ NBz1.out _ | refine IsS146.far ?_ NBz5.out _) | exact HIz1.out)) (by repeat (first | (with_reducible first | exact HB.out | apply below_alloc | apply pw_below_drewN | apply below_drew1 | refine below_set ?_ (IsS146.ge HIz1.out) | refine below_set ?_ GEz1.out | refine below_set ?_ GEz2.out) | exact HB.out)) A5.out).mono ?_;rintro e wz6 ⟨rfl,hi,hb,hk⟩;refine⟨_,rfl,?_⟩;replace BKz1:=aM (KeepBut.blk hk (g':=gbz1) (o:=.cells #[.slice none 0 0,.int .i64 0] 26 (0,0)) (bX BKz1.out) NBz2.out (by simp));replace HOz1:=aM (Kd.R_mono (Kd.R_keep (IsS146.apart (show IsS146 w _ gz1 t102 t116 t117 from (i146 HIz1.out)) (rX HOz1.out) (by decide)) hk (fun _ h=>h.2)) (fun _ h=>h.1));replace BKz2:=aM (KeepBut.blk hk (g':=gbz2) (o:=.cells #[.slice Aoz1 t106.length coz1,.int .i64 t109] 26 (0,0)) (bX BKz2.out) NBz6.out (by simp));replace HOz2:=aM (Kd.N_mono (Kd.N_keep (Kd.N_mono (ok:=fun k_=>(((w.heap.size≤k_))∧(some k_ ≠ (.slice Aoz1 t106.length coz1:Value).ownBlock∧(k_ ≠ gbz1∧(k_ ≠ gbz2∧k_ ≠ gz1))))) (nX HOz2.out) (fun k_ hk_=>(⟨hk_,hk_.2.2.2.2⟩:_∧k_ ≠ gz1))) hk (fun _ h=>h.2)) (fun _ h=>h.1));replace HB:=aM (hb);replace HIz1:=aM (hi);clear hb hk hi)
 replace HOz1:=aM (Kd.R_drew HOz1.out)
 replace HOz2:=aM (Kd.N_drew HOz2.out)
 replace BKz1:=aM (blk_drew BKz1.out)
 replace BKz2:=aM (blk_drew BKz2.out)
 replace HIz1:=aM (IsS146.drew HIz1.out)
 replace HB:=aM (below_drew1 HB.out)
 refine start_ (n:=6) (S:=fun w'=>w'.cell? ⟨gbz2,0,none⟩=some (.slice Aoz1 t106.length coz1)∧w'.cell? ⟨gbz2,1,none⟩=some (.int .i64 t109)) (ds:=[]) (bm 6 0) (by kernel_rfl) rfl (by kernel_rfl) ⟨cK BKz2.out 0,cK BKz2.out 1⟩ (fun hHeld => ?_)
 generalize wz6.drew=wz7 at HOz1 HOz2 BKz1 BKz2 HIz1 HB hHeld ⊢
 refine pK 1 27 (bm 6 2) ?_
 refine tK 0 26 (bm 6 3) hHeld ?_
 refine oK 2 (some 28) (bm 6 7) (fun K hK => ?_)
 refine Kd.N_lit_step (Kd.slice 78 k78) _ 103 ?hg (N':=28) ?hd (xs:=([[],[],[]]:List (List (S78)))) (inner:=[.slice none 0 0,.slice none 0 0,.slice none 0 0]) (ok:=(fun k_=>(w.heap.size≤k_)∧some k_ ≠ (.slice Aoz1 t106.length coz1:Value).ownBlock∧some k_ ≠ (vz2:Value).ownBlock∧k_ ≠ gbz1∧k_ ≠ gbz2∧k_ ≠ gz1)) (okp:=(fun k_=>(w.heap.size≤k_)∧some k_ ≠ (.slice Aoz1 t106.length coz1:Value).ownBlock∧some k_ ≠ (vz2:Value).ownBlock∧k_ ≠ gbz1∧k_ ≠ gbz2∧k_ ≠ gz1)) ?hr ?hp (fun _ hk=>hk) ((show ∀ k_,wz7.heap.size≤k_→(fun k_=>(w.heap.size≤k_)∧some k_ ≠ (.slice Aoz1 t106.length coz1:Value).ownBlock∧some k_ ≠ (vz2:Value).ownBlock∧k_ ≠ gbz1∧k_ ≠ gbz2∧k_ ≠ gz1) k_ from fun k_ hk=>⟨(Nat.le_trans (below_size (hY HB.out (IsS146.ge HIz1.out))) hk),Kd.fresh' (Kd.R_lt (rX HOz1.out)) k_ hk,Kd.fresh' (Kd.N_lt (nX HOz2.out)) k_ hk,Kd.freshB (g:=gbz1) (o:=.cells #[.slice none 0 0,.int .i64 0] 26 (0,0)) (bX BKz1.out) k_ hk,Kd.freshB (g:=gbz2) (o:=.cells #[.slice Aoz1 t106.length coz1,.int .i64 t109] 26 (0,0)) (bX BKz2.out) k_ hk,IsS146.fresh (i146 HIz1.out) k_ hk⟩) _ (Nat.le_refl _)) (Below.refl _ _) (Nat.le_refl _) (by simp) ?_;(case hd=>rfl);(case hg=>rfl);(case hr=>first | (go_simp;done) | (go_simp;rfl));(case hp=>exact(Reps.one (show Kd.FK (Kd.slice 78 k78) _ _ [] [.slice none 0 0] from (Kd.FK_slice_mk (Nat.le_refl _) (Kd.F_nil _ _ _))) (Reps.one (show Kd.FK (Kd.slice 78 k78) _ _ [] [.slice none 0 0] from (Kd.FK_slice_mk (Nat.le_refl _) (Kd.F_nil _ _ _))) (Reps.one (show Kd.FK (Kd.slice 78 k78) _ _ [] [.slice none 0 0] from (Kd.FK_slice_mk (Nat.le_refl _) (Kd.F_nil _ _ _))) (Reps.none _ _)))))
 intro vz3 wz8 hoz2 hb hg_ hnew_
 clear hg_ hnew_
 (first | rw[← Ny132.out] at hoz2 | (simp only[Int.reduceToNat] at hoz2;rw[← Ny132.out] at hoz2))
 have HOz3:=aM (Kd.N_lower hoz2 (below_size (hY HB.out (IsS146.ge HIz1.out))))
 replace HOz1:=aQ HOz1 hb
 replace HOz2:=aM (Kd.N_elder' (nX HOz2.out) (Kd.N_base hoz2) hb)
 replace BKz1:=aB BKz1 hb
 replace BKz2:=aB BKz2 hb
 replace HB:=aM (below_step (hY HB.out (IsS146.ge HIz1.out)) hb)
 replace HIz1:=aM (IsS146.below (i146 HIz1.out) hb)
 clear hb hoz2
 obtain⟨Aoz2,coz2,eoz2⟩:=Kd.N_slice HOz3.out
 (first | subst eoz2 | (injection eoz2 with f1_ f2_ f3_;have fz1:=f1_.symm;have fz2:=f3_.symm;clear f1_ f2_ f3_;subst fz1;subst fz2))
 refine hK.out _ _ ⟨cK BKz2.out 0,cK BKz2.out 1⟩ (fun hHeld => ?_)
 clear hK K
 refine nZ 28 ?_
 refine oK 3 (some 29) (bm 6 15) (fun K hK => ?_)
 refine Kd.N_append_rows_step (Kd.slice 78 k78) (w0:=w) w.heap.size (by rfl) (.tmp 27) (.tmp 28) 27 103 (.slice none 0 0) 24 rfl Tryz.underlying27 info103 rfl (by decide) (by omega) vz2 t113 y132 _ _ _ (fun k_=>(w.heap.size≤k_)∧some k_ ≠ (.slice Aoz1 t106.length coz1:Value).ownBlock∧k_ ≠ gbz1∧k_ ≠ gbz2∧k_ ≠ gz1) (fun k_=>((fun k_=>(w.heap.size≤k_)∧some k_ ≠ (.slice Aoz1 t106.length coz1:Value).ownBlock∧k_ ≠ gbz1∧k_ ≠ gbz2∧k_ ≠ gz1)) k_∧some k_ ≠ (vz2:Value).ownBlock) rfl rfl ?aO ?aR (fun _ hk=>hk) ?aF ?aB ?aS ?aL ?_
 (case aR=>exact(by skip;exact Kd.N_F (Kd.N_mono (ok':=(fun k_=>((fun k_=>(w.heap.size≤k_)∧some k_ ≠ (.slice Aoz1 t106.length coz1:Value).ownBlock∧k_ ≠ gbz1∧k_ ≠ gbz2∧k_ ≠ gz1)) k_∧some k_ ≠ (vz2:Value).ownBlock)) (HOz3.out) (fun k_ hk=>⟨⟨hk.1,⟨hk.2.1,⟨hk.2.2.2.1,⟨hk.2.2.2.2.1,hk.2.2.2.2.2⟩⟩⟩⟩,hk.2.2.1⟩))))
 (case aB=>exact(hY HB.out (IsS146.ge HIz1.out)))
 (case aF=>exact(fun k_ hk=>⟨(Nat.le_trans (below_size (hY HB.out (IsS146.ge HIz1.out))) hk),Kd.fresh' (Kd.R_lt (rX HOz1.out)) k_ hk,Kd.freshB (g:=gbz1) (o:=.cells #[.slice none 0 0,.int .i64 0] 26 (0,0)) (bX BKz1.out) k_ hk,Kd.freshB (g:=gbz2) (o:=.cells #[.slice Aoz1 t106.length coz1,.int .i64 t109] 26 (0,0)) (bX BKz2.out) k_ hk,IsS146.fresh (i146 HIz1.out) k_ hk⟩))
 (case aO=>exact(nT (h:=by exact Kd.N_mono HOz2.out (fun _ hk=>⟨hk.1.1,⟨hk.1.2.1,⟨hk.1.2.2.1,⟨hk.1.2.2.2.1,hk.1.2.2.2.2⟩⟩⟩⟩))))
 (case aS=>exact(below_size (hY HB.out (IsS146.ge HIz1.out))))
 (case aL=>have:=LMc28.out;omega)
 intro vz4 wz9 ho hb hg hat
 rw[← Ny135.out] at ho
 have HOz4:=aM (ho)
 replace BKz1:=aM (blk_grown (g:=gbz1) (o:=.cells #[.slice none 0 0,.int .i64 0] 26 (0,0)) (bX BKz1.out) hg (Kd.N_ne HOz2.out BKz1.out (by decide)))
 replace HIz1:=aM (IsS146.grown (i146 HIz1.out) hg (IsS146.own_neN HIz1.out HOz2.out (by decide)))
 replace HOz1:=aM (Kd.R_over' (rX HOz1.out) (Kd.N_typed (nX HOz2.out)) (by decide) hg)
 replace BKz2:=aM (blk_grown (g:=gbz2) (o:=.cells #[.slice Aoz1 t106.length coz1,.int .i64 t109] 26 (0,0)) (bX BKz2.out) hg (Kd.N_ne HOz2.out BKz2.out (by decide)))
 replace HOz3:=aM (Kd.N_afterv (ok:=(fun k_=>(w.heap.size≤k_)∧some k_ ≠ (.slice Aoz1 t106.length coz1:Value).ownBlock∧k_ ≠ gbz1∧k_ ≠ gbz2∧k_ ≠ gz1)) (nT (h:=by exact Kd.N_mono HOz3.out (fun _ hk=>⟨⟨hk.1,⟨hk.2.1,⟨hk.2.2.2.1,⟨hk.2.2.2.2.1,hk.2.2.2.2.2⟩⟩⟩⟩,hk.2.2.1⟩))) hg hat)
 replace HB:=aM (hb)
 clear HOz2
 clear ho hb hg hat
 refine hK.out _ _ ⟨cK BKz2.out 0,cK BKz2.out 1⟩ (fun hHeld => ?_)
 clear hK K
 refine nZ 29 ?_
 refine oK 4 none (bm 6 31) (fun K hK => ?_)
 have hsz1:wz9.cell? ⟨gbz1,0,none⟩=some (.slice none 0 0):=(blk_cell BKz1.out 0).trans rfl
 have hfsz1:=blk_frozen BKz1.out 0
 have hnsz1:=NBz4.out
 have hmsz1:=NBz3.out
 have hsz2:wz9.cell? ⟨gbz1,1,none⟩=some (.int .i64 0):=(blk_cell BKz1.out 1).trans rfl
 have hfsz2:=blk_frozen BKz1.out 1
 have hnsz2:=NBz4.out
 have hmsz2:=NBz3.out
 refine skip_ (w1:=?_) (by rfl) rfl ?_ ?_
 rotate_left
 ·go_simp
  rfl
 refine hK.out _ _ ⟨(fA NBz4.out hHeld.1),(fA NBz4.out hHeld.2)⟩ (fun hHeld => ?_)
 clear hK K
 refine pK 5 3 (bm 6 63) ?_
 refine done_ (by kernel_rfl) ?_
 try go_wp2
 refine bodyPost_ret (results_ct rfl _ _ gbz1 26 #[.slice Aoz1 t106.length coz1,.int .i64 t109] (0,0) _ rfl (bP BKz1.out) Tryz.underlying26 rfl (by kernel_rfl)) rfl ?_
 exact⟨_,_,rE,(Kd.R_mono (rF HOz1.out BKz1.out) (fun _ hk=>hk.1)),(nT (h:=by exact Kd.N_mono (Kd.N_far (p:=⟨gbz1,1,none⟩) (Kd.N_far (p:=⟨gbz1,0,none⟩) (Kd.N_mono HOz4.out (fun k_ hk=>(⟨hk,hk.2.2.1⟩:_∧k_ ≠ gbz1))) (fun _ hk=>hk.2) (.slice Aoz1 t106.length coz1)) (fun _ hk=>hk.2) (.int .i64 t109)) (fun _ hk=>⟨hk.1.1,hk.1.2.1⟩))),(hY HB.out (IsS146.ge HIz1.out))⟩
end Go.Proofs.YthejoblnfpaojaaGreat.P
namespace Go.Proofs.YthejoblnfpaojaaGreat.P
open Go.RowKit Go.Proofs.YthejoblnfpaojaaGreatW.PrintWords Go.Proofs.YthejoblnfpaojaaGreatW.PrintLast Go.Proofs.YthejoblnfpaojaaGreatZ
def kbOk (a b:Int):Prop:=(1≤a∧a≤10)∧(if a≤4 then 0≤b∧b≤3 else if a=6 then 0≤b∧b≤2 else b=0)
theorem hasVal_eq (a:Int):Xap.f a=some (decide (a=1 ∨ a=2 ∨ a=5 ∨ a=10)):=by
 unfold Xap.f
 by_cases h1:a=1
 ·simp[h1]
 ·by_cases h2:a=2
  ·simp[h2]
  ·by_cases h5:a=5
   ·simp[h5]
   ·simp[h1,h2,h5];rfl
theorem opOk_val {a b v:Int} (h:kbOk a b) (hv:a=1 ∨ a=2 ∨ a=5 ∨ a=10) (h1:1≤v) (h2:v≤6):opOk a b v=true:=by
 obtain⟨_,h⟩:=h
 rcases hv with rfl | rfl | rfl | rfl
 ·have:0≤b∧b≤3:=by simpa using h
  simp[opOk,keyB,valB];omega
 ·have:0≤b∧b≤3:=by simpa using h
  simp[opOk,keyB,valB];omega
 ·have:b=0:=by simpa using h
  simp[opOk,keyB,valB];omega
 ·have:b=0:=by simpa using h
  simp[opOk,keyB,valB];omega
theorem opOk_no {a b:Int} (h:kbOk a b) (hv:¬ (a=1 ∨ a=2 ∨ a=5 ∨ a=10)):opOk a b 0=true:=by
 obtain⟨hr,h⟩:=h
 have:a=3 ∨ a=4 ∨ a=6 ∨ a=7 ∨ a=8 ∨ a=9:=by omega
 rcases this with rfl | rfl | rfl | rfl | rfl | rfl
 ·have:0≤b∧b≤3:=by simpa using h
  simp[opOk,keyB];omega
 ·have:0≤b∧b≤3:=by simpa using h
  simp[opOk,keyB];omega
 ·have:0≤b∧b≤2:=by simpa using h
  simp[opOk,clsB];omega
 all_goals
  have:b=0:=by simpa using h
  simp[opOk,this]
theorem l4Rj1_ok {bs:List Int} {i:Int} (h:okC bs i) (c a b:Int) (hk:kbOk a b):EvG (fun k=>Xp.j1 k bs i c a b 0) (fun r=>opOk r.1 r.2.1 r.2.2.1=true∧okC bs r.2.2.2.1):=by
 refine EvG.shift ?_
 simp only[Xp.j1,hasVal_eq,Option.bind_some,decide_eq_true_eq]
 refine EvG.ite (fun hv=>EvG.bind (EvG.of_got (l1Below_got h c 4)) (fun q hq=>EvG.now ⟨?_,hq.2.2.2⟩)) (fun hv=>EvG.now ⟨opOk_no hk hv,h⟩)
 have h1:=hq.1
 have h2:=hq.2.1 (by decide)
 exact opOk_val hk hv (by show 1≤wrap64 (1+q.1);rw[w64 (by omega) (by omega)];omega) (by show wrap64 (1+q.1)≤6;rw[w64 (by omega) (by omega)];omega)
theorem l4Rj0_ok {bs:List Int} {i:Int} (h:okC bs i) (c a b:Int) (hk:a=6 ∨ kbOk a b):EvG (fun k=>Xp.j0 k bs i c a b 0) (fun r=>opOk r.1 r.2.1 r.2.2.1=true∧okC bs r.2.2.2.1):=by
 refine EvG.shift ?_
 simp only[Xp.j0]
 refine EvG.ite (fun e=>EvG.bind (EvG.of_got (l1Below_got h c 3)) (fun q hq=>l4Rj1_ok hq.2.2.2 _ a _ ?_)) (fun e=>l4Rj1_ok h c a b ?_)
 ·have h1:=hq.1
  have h2:=hq.2.1 (by decide)
  subst e
  refine⟨by omega,?_⟩
  simp only[show ¬ ((6:Int)≤4) by omega,if_false,if_true]
  omega
 ·rcases hk with hk | hk
  ·exact absurd hk e
  ·exact hk
theorem l4Right_ok {bs:List Int} {i:Int} (h:okC bs i) (c:Int):EvG (fun k=>Xp.f k bs i c) (fun r=>opOk r.1 r.2.1 r.2.2.1=true∧okC bs r.2.2.2.1):=by
 simp only[Xp.f]
 refine EvG.bind (EvG.of_got (l1PickInt_got h c _ (by simp))) (fun r hr => ?_)
 have hkey:Xas.f r.1=some (decide (1≤r.1∧r.1≤4)):=by simp only[Xas.f,specIn_eq,Option.bind_some]
 have hm:1≤r.1∧r.1≤10:=by
  have:=hr.1
  simp only[List.mem_cons,List.not_mem_nil,or_false] at this
  omega
 simp only[hkey,Option.bind_some,decide_eq_true_eq]
 refine EvG.ite (fun e=>EvG.bind (EvG.of_got (l1Below_got hr.2 _ 4)) (fun q hq=>l4Rj0_ok hq.2.2.2 _ _ _ (.inr ⟨hm,?_⟩))) (fun e=>l4Rj0_ok hr.2 _ _ 0 ?_)
 ·have h1:=hq.1
  have h2:=hq.2.1 (by decide)
  rw[if_pos e.2]
  omega
 ·by_cases h6:r.1=6
  ·exact .inl h6
  ·refine .inr ⟨hm,?_⟩
   rw[if_neg (by omega),if_neg h6]
theorem l4Draw_c {bs:List Int} {i:Int} (h:okC bs i) (c:Int):EvG (fun k=>XaL.f k bs i c) (fun r=>okC bs r.2.2.2.1):=by
 simp only[XaL.f]
 refine EvG.bind (l4Right_ok h c) (fun r hr=>EvG.bind (EvG.of_got (l1Below_got hr.2 _ 10)) (fun q hq => ?_))
 refine EvG.ite (fun _=>EvG.bind (EvG.of_got (l1Below_got hq.2.2.2 _ 13)) (fun p hp=>EvG.now hp.2.2.2)) (fun _ => ?_)
 refine EvG.ite (fun _=>EvG.bind (EvG.of_got (l1Below_got hq.2.2.2 _ 7)) (fun p hp=>EvG.now hp.2.2.2)) (fun _ => ?_)
 exact EvG.ite (fun _=>EvG.bind (EvG.of_got (l1Below_got hq.2.2.2 _ 9)) (fun p hp=>EvG.now hp.2.2.2)) (fun _=>EvG.now hq.2.2.2)
section
variable {bs:List Int}
abbrev dO:=S78
def opsR (l:List dO):Prop:=(∀ o ∈ l,opOk o.f0 o.f1 o.f2=true)∧l.length≤4
def opssR (l:List (List dO)):Prop:=(∀ x ∈ l,opsR x)∧l.length≤3
theorem newC_evg (hb:bs.length≤1048576):EvG (fun k=>X8.f k bs) (fun r=>okC r.1 r.2.1):=(l1New_evg bs hb).mono (fun r hr=>by rw[hr.1,hr.2];exact okC_start hb)
theorem drawOps_ok {i:Int} (h:okC bs i) (c:Int):EvG (fun k=>Xs.f k bs i c) (fun r=>opssR r.1∧0<r.1.length∧okC bs r.2.1):=by
 have inner:∀ (n x:Nat) (out:List (List dO)) (y:Int) (acc:List dO) (i c:Int),x+n=4→acc.length=x→(∀ o ∈ acc,opOk o.f0 o.f1 o.f2=true)→okC bs i→out.length≤100 →
   (∀ (l:List dO) (i c:Int),opsR l→okC bs i→EvG (fun k=>Xs.l0 k (out ++ [l]) (wrap64 (y+1)) bs i c) (fun r=>opssR r.1∧0<r.1.length∧okC bs r.2.1)) →
   EvG (fun k=>Xs.l1 k out y acc (x:Int) bs i c) (fun r=>opssR r.1∧0<r.1.length∧okC bs r.2.1):=by
  intro n
  induction n with
  | zero =>
   intro x out y acc i c hx ha ho hc hl next
   refine EvG.shift ?_
   simp only[Xs.l1]
   refine EvG.bind (EvG.of_got (l1Below_got hc c 4)) (fun q hq=>EvG.neg ?_ (EvG.pos (by omega) (next _ _ _ ⟨ho,by omega⟩ hq.2.2.2)))
   have:=hq.2.1 (by decide)
   have:=hq.1
   rw[w64 (by omega) (by omega)]
   omega
  | succ n ih =>
   intro x out y acc i c hx ha ho hc hl next
   refine EvG.shift ?_
   simp only[Xs.l1]
   have e:wrap64 ((x:Int)+1)=((x+1:Nat):Int):=by rw[w64 (by omega) (by omega)];omega
   rw[e]
   refine EvG.bind (EvG.of_got (l1Below_got hc c 4)) (fun q hq=>EvG.ite (fun _ => ?_) (fun _=>EvG.pos (by omega) (next _ _ _ ⟨ho,by omega⟩ hq.2.2.2)))
   refine EvG.bind (l4Right_ok hq.2.2.2 _) (fun p hp=>EvG.pos (by omega) (ih (x+1) out y _ _ _ (by omega) (by simp[ha]) (fun o h => ?_) hp.2 hl next))
   rcases List.mem_append.mp h with h | h
   ·exact ho o h
   ·rw[List.mem_singleton.mp h];exact hp.1
 have outer:∀ (n x:Nat) (out:List (List dO)) (i c:Int),x+n=3→out.length=x→(∀ l ∈ out,opsR l)→okC bs i→EvG (fun k=>Xs.l0 k out (x:Int) bs i c) (fun r=>opssR r.1∧0<r.1.length∧okC bs r.2.1):=by
  intro n
  induction n with
  | zero =>
   intro x out i c hx ha ho hc
   refine EvG.shift ?_
   simp only[Xs.l0]
   refine EvG.bind (EvG.of_got (l1Below_got hc c 3)) (fun q hq=>EvG.neg ?_ (EvG.now ⟨⟨ho,by show out.length≤3;omega⟩,by show 0<out.length;omega,hq.2.2.2⟩))
   have:=hq.2.1 (by decide)
   have:=hq.1
   rw[w64 (by omega) (by omega)]
   omega
  | succ n ih =>
   intro x out i c hx ha ho hc
   refine EvG.shift ?_
   simp only[Xs.l0]
   refine EvG.bind (EvG.of_got (l1Below_got hc c 3)) (fun q hq=>EvG.ite (fun _ => ?_) (fun hn=>EvG.now ⟨⟨ho,by show out.length≤3;omega⟩,?_,hq.2.2.2⟩))
   ·refine inner 4 0 out (x:Int) [] _ _ rfl rfl (fun o ho=>by cases ho) hq.2.2.2 (by omega) (fun l i c hl hc => ?_)
    have e:wrap64 ((x:Int)+1)=((x+1:Nat):Int):=by rw[w64 (by omega) (by omega)];omega
    rw[e]
    refine ih (x+1) _ i c (by omega) (by simp[ha]) (fun y hy => ?_) hc
    rw[List.mem_append,List.mem_singleton] at hy
    rcases hy with hy | rfl
    ·exact ho y hy
    ·exact hl
   ·show 0<out.length
    have:=hq.2.1 (by decide)
    have:=hq.1
    rw[w64 (by omega) (by omega)] at hn
    omega
 simp only[Xs.f]
 exact outer 3 0 [] i c rfl rfl (fun x hx=>by cases hx) h
end
theorem specKey_evg (h:List Int) (hl:h.length≤1048576) (s v:Int):EvG (fun k=>XX.f k h s v) (fun _=>True):=by
 obtain⟨q,hq,_⟩:=key_ev h (by omega) s v 0 (Nat.zero_le _)
 exact EvG.of_ev hq trivial
theorem l3DrawRight_evg {b:List Int} {i:Int} (h:okC b i) (c:Int):EvG (fun k=>XD.f k b i c) (fun r=>r.1.length=4∧okC b r.2.2.1):=by
 have key:∀ (n x:Nat) (hd:List Int) (s i c:Int),x+n=4→hd.length=4→okC b i→EvG (fun k=>XD.l0 k (x:Int) b i c hd s) (fun r=>r.1.length=4∧okC b r.2.2.1):=by
  intro n
  induction n with
  | zero =>
   intro x hd s i c hx hh hc
   refine EvG.shift ?_
   simp only[XD.l0]
   refine EvG.neg (by omega) ?_
   exact EvG.bind (EvG.of_got (l1PickInt_got hc c _ (by simp))) (fun r hr=>EvG.now ⟨hh,hr.2⟩)
  | succ n ih =>
   intro x hd s i c hx hh hc
   refine EvG.shift ?_
   simp only[XD.l0]
   refine EvG.pos (by omega) ?_
   have e:wrap64 ((x:Int)+1)=((x+1:Nat):Int):=by rw[w64 (by omega) (by omega)];omega
   rw[e]
   refine EvG.bind (EvG.of_got (l1Below_got hc c 7)) (fun r hr=>EvG.bind (specKey_evg hd (by omega) s r.1) (fun t _ => ?_))
   refine EvG.ite (fun _=>EvG.pos (by omega) (EvG.pos (by omega) ?_)) (fun _ => ?_)
   ·exact ih (x+1) _ s _ _ (by omega) (by rw[List.length_set];exact hh) hr.2.2.2
   ·exact ih (x+1) _ s _ _ (by omega) hh hr.2.2.2
 simp only[XD.f,XaM.f,show (4:Nat)≤35184372088832 by decide,if_true,Option.bind_some]
 exact key 4 0 _ _ i c rfl List.length_replicate h
theorem l3Draw_evg {b:List Int} {i:Int} (h:okC b i) (c:Int):EvG (fun k=>XaK.f k b i c) (fun r=>r.1.length≤4∧okC b r.2.2.1):=by
 simp only[XaK.f]
 refine EvG.bind (l3DrawRight_evg h c) (fun r hr=>EvG.bind (EvG.of_got (l1Below_got hr.2 _ 8)) (fun d hd => ?_))
 have h4:=hr.1
 refine EvG.ite (fun _ => ?_) (fun _=>EvG.ite (fun _ => ?_) (fun _=>EvG.ite (fun _ => ?_) (fun _=>EvG.ite (fun _ => ?_) (fun _ => ?_))))
 ·exact EvG.bind (EvG.of_got (l1PickInt_got hd.2.2.2 _ _ (by simp))) (fun t ht=>EvG.pos (by omega) (EvG.now ⟨by show (r.1.set _ _).length≤4;rw[List.length_set];omega,ht.2⟩))
 ·exact EvG.pos (by omega) (EvG.pos (by omega) (EvG.now ⟨by show ((r.1.set _ _).set _ _).length≤4;rw[List.length_set,List.length_set];omega,hd.2.2.2⟩))
 ·exact EvG.bind (EvG.of_got (l1PickInt_got hd.2.2.2 _ _ (by simp))) (fun t ht=>EvG.now ⟨by show r.1.length≤4;omega,ht.2⟩)
 ·exact EvG.pos (by omega) (EvG.now ⟨by show (r.1.take _).length≤4;rw[List.length_take];omega,hd.2.2.2⟩)
 ·exact EvG.now ⟨by show r.1.length≤4;omega,hd.2.2.2⟩
end Go.Proofs.YthejoblnfpaojaaGreat.P
