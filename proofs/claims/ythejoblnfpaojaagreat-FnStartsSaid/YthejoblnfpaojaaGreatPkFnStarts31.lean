/- A part of the proof of the law FnStarts: texts of this seat, merged (words, printed functions of the program, plain lemmas). Conditions: none of its own. -/
import Derived.Test.YthejoblnfpaojaaGreatPkFnStarts28
set_option linter.unusedSimpArgs false
set_option linter.unusedVariables false
set_option maxHeartbeats 8000000
set_option maxRecDepth 100000
namespace Go.Proofs.YthejoblnfpaojaaGreat.P
open Go.Proofs.YthejoblnfpaojaaGreatZ Go.RowKit Go.Proofs.YthejoblnfpaojaaGreatW.PrintWords Go.Proofs.YthejoblnfpaojaaGreatW.PrintLast Go.Proofs.YthejoblnfpaojaaGreatW.PrintMore
attribute [local go_sem] max2_int min2_int max_two min_two max_three min_three max_four min_four   -- for this text's walks alone
mutual
def Xs.l0:Nat→List (List (S78))→Int→List Int→Int→Int→Option ((List (List (S78))) × Int × Int)
 | 0,_,_,_,_,_=>none
 | k+1,x3,x4,x1000,x1001,x1002=>(Xj.f x1000 x1001 x1002 3).bind fun bt104=>(if x4<(wrap64 (1+bt104.1)) then (Xs.l1 k x3 x4 (([]:List (S78))) 0 x1000 bt104.2.1 bt104.2.2) else (some (x3,bt104.2.1,bt104.2.2)))
def Xs.l1:Nat→List (List (S78))→Int→List (S78)→Int→List Int→Int→Int→Option ((List (List (S78))) × Int × Int)
 | 0,_,_,_,_,_,_,_=>none
 | k+1,x3,x4,x5,x6,x1000,x1001,x1002=>(Xj.f x1000 x1001 x1002 4).bind fun bt110=>(if x6<(wrap64 (1+bt110.1)) then ((Xp.f k x1000 bt110.2.1 bt110.2.2).bind fun bt113=>(if x5.length<5864062014805 then (Xs.l1 k x3 x4 (x5 ++ [(⟨bt113.1,bt113.2.1,bt113.2.2.1⟩:S78)]) (wrap64 (x6+1)) x1000 bt113.2.2.2.1 bt113.2.2.2.2) else (none))) else (if x3.length<5864062014805 then (Xs.l0 k (x3 ++ [x5]) (wrap64 (x4+1)) x1000 bt110.2.1 bt110.2.2) else (none)))
end
def Xs.f (k:Nat) (s0_0:List Int) (s0_1:Int) (s0_2:Int):Option ((List (List (S78))) × Int × Int):=Xs.l0 k (([]:List (List (S78)))) 0 s0_0 s0_1 s0_2
theorem Xs.calls (k:Nat) (g:Nat) (s0_0:List Int) (s0_1:Int) (s0_2:Int) (r1:List (List (S78))) (r2:Int) (r3:Int) (w0 w:World) (hI:IsS146 w0 w g s0_0 s0_1 s0_2) (hB:Below w0.heap.size w0 w) (h:Xs.f k s0_0 s0_1 s0_2=some (r1,r2,r3)) :
  Calls Tryz.prog 75 #[.pointer (some ⟨g,0,none⟩)] w fun e w'=>∃ v0_:Value,e = .returned (v0_)∧Kd.S (Kd.slice 78 k78) 103 w' w.heap.size (fun _=>True) v0_ r1∧IsS146 w0 w' g s0_0 r2 r3∧Below w0.heap.size w0 w'∧KeepBut w w' g none:=by
 have HI0:=aM hI
 have HK:=aM (KeepBut.refl w g none)
 have HL:=aM hB.size
 clear hI
 have HW0:=aM hB.size
 have HB:=aM hB
 clear hB
 have H:=h
 unfold Xs.f at H
 clear h
 obtain⟨y101,hy101⟩:∃ y_:List (List (S78)),y_=(([]:List (List (S78)))):=⟨_,rfl⟩
 replace H:(Xs.l0 k y101 0 s0_0 s0_1 s0_2)=some (r1,r2,r3):=yH H hy101
 have Ny101:=aM hy101
 clear hy101
 have H':=aM H
 clear H
 go_enter Tryz.func75,Tryz.ntmps75
 go_wp2_with ((with_reducible refine gate_dst (N:=7) rfl ?_);refine Kd.S_lit (Kd.slice 78 k78) _ 103 ?hg (N:=7) ?hd (xs:=([]:List (List (S78)))) (inner:=[]) (ok:=fun _=>True) (okp:=fun _=>True) ?hr ?hp (fun _ hk=>hk) trivial (Below.refl _ _) (Nat.le_refl _) (by simp) ?_;(case hd=>rfl);(case hg=>rfl);(case hr=>first | (go_simp;done) | (go_simp;rfl));(case hp=>exact(Reps.none _ _));intro vz1 wz1 hoz1 hb hg_ hnew_;clear hg_ hnew_;(first | rw[← Ny101.out] at hoz1 | (simp only[Int.reduceToNat] at hoz1;rw[← Ny101.out] at hoz1));have HOz1:=aM (Kd.S_lower hoz1 (keep_size (w:=w) (g:=g) (row:=none) (kX HK.out)));replace HK:=aM (KeepBut.trans (kX HK.out) (KeepBut.of_below hb g none) (.inl rfl));replace HB:=aM (below_step (hY HB.out (IsS146.ge HI0.out)) hb);replace HI0:=aM (IsS146.below (i146 HI0.out) hb);clear hb hoz1)
 go_loopg [3,4] k (fun kq v3 v4 w'=>∃ (x3_1:List (List (S78))) (x4_1:Int) (x1001_1:Int) (x1002_1:Int),v4 = .int .i64 x4_1∧Aside0 (Xs.l0 kq x3_1 x4_1 s0_0 x1001_1 x1002_1=some (r1,r2,r3))∧Aside0 (kq≤k)∧Aside0 (Kd.S (Kd.slice 78 k78) 103 w' w.heap.size (fun _=>True) v3 x3_1)∧Aside0 (IsS146 w0 w' g s0_0 x1001_1 x1002_1)∧Aside0 (KeepBut w w' g none)∧Aside0 (Below w0.heap.size w0 w'))
 case atStart=>exact⟨(y101),(0),(s0_1),(s0_2),rS,H',⟨Nat.le_refl _⟩,⟨(sX HOz1.out)⟩,⟨(i146 HI0.out)⟩,⟨(kX HK.out)⟩,⟨(hY HB.out (IsS146.ge HI0.out))⟩⟩
 case round =>
  clear H'
  obtain⟨x3_1,x4_1,x1001_1,x1002_1,rfl,HA,HKy1,HO_y1,HI0,HK,HB⟩:=hrel
  cases gk with
  | zero=>exact absurd HA.out (by simp[Xs.l0])
  | succ k1 =>
   have H:=HA.out
   clear HA
   simp only[Xs.l0] at H
   replace H:=bE H;obtain⟨⟨t104,t105,t106⟩,A4,H⟩:=H
   try dsimp only at H
   go_wp2_with (refine goesM 76 10 Tryz.func76 #[.pointer (some ⟨g,0,none⟩),.int .i64 3] ?_;refine(Xj.calls g s0_0 x1001_1 x1002_1 3 t104 t105 t106 w0 _ (by repeat (first | (with_reducible first | exact HI0.out | apply IsS146.alloc | apply IsS146.drewN | apply IsS146.drew | apply IsS146.set_1 | apply IsS146.set_2) | exact HI0.out)) (by repeat (first | (with_reducible first | exact HB.out | apply below_alloc | apply pw_below_drewN | apply below_drew1 | refine below_set ?_ (IsS146.ge HI0.out)) | exact HB.out)) A4.out).mono ?_;rintro e wx1 ⟨rfl,hi,hb,hk⟩;refine⟨_,rfl,?_⟩;replace HO_y1:=aM (Kd.S_mono (Kd.S_keep (IsS146.apartS (show IsS146 w0 _ g s0_0 x1001_1 x1002_1 from (i146 HI0.out)) (sX HO_y1.out) (by decide)) hk (fun _ h=>h.2)) (fun _ h=>h.1));replace HK:=aM (KeepBut.trans (kX HK.out) hk (.inl rfl));replace HB:=aM (hb);replace HI0:=aM (hi);clear hb hk hi;refine Stop.out ?_)
   refine⟨?_⟩
   revert H;refine iN ?_ ?_<;>intro c5b0 H
   ·simp only[Option.some.injEq,Prod.mk.injEq] at H
    obtain⟨rfl,rfl,rfl⟩:=H
    go_wp2
    go_ret
    exact⟨_,rE,(sX HO_y1.out),(i146 HI0.out),(hY HB.out (IsS146.ge HI0.out)),(kX HK.out)⟩
   obtain⟨y107,hy107⟩:∃ y_:List (S78),y_=(([]:List (S78))):=⟨_,rfl⟩
   replace H:(Xs.l1 k1 x3_1 x4_1 y107 0 s0_0 t105 t106)=some (r1,r2,r3):=yH H hy107
   have Ny107:=aM hy107
   clear hy107
   have H':=aM H
   clear H
   go_wp2_with ((with_reducible refine gate_dst (N:=15) rfl ?_);refine Kd.R_lit k78 _ 78 ?hg (N:=15) ?hd (xs:=([]:List (S78))) (inner:=[]) (ok:=fun _=>True) (okp:=fun _=>True) ?hr ?hp (fun _ hk=>hk) trivial (Below.refl _ _) (Nat.le_refl _) (by simp) ?_;(case hd=>rfl);(case hg=>rfl);(case hr=>first | (go_simp;done) | (go_simp;rfl));(case hp=>exact(Reps.none _ _));intro vx1 wx2 hox1 hb hg_ hnew_;clear hg_ hnew_;(first | rw[← Ny107.out] at hox1 | (simp only[Int.reduceToNat] at hox1;rw[← Ny107.out] at hox1));have HOx1:=aM (Kd.R_lower hox1 (keep_size (w:=w) (g:=g) (row:=none) (kX HK.out)));replace HO_y1:=aM (Kd.S_elder' (sX HO_y1.out) (Kd.R_base hox1) hb);replace HK:=aM (KeepBut.trans (kX HK.out) (KeepBut.of_below hb g none) (.inl rfl));replace HB:=aM (below_step (hY HB.out (IsS146.ge HI0.out)) hb);replace HI0:=aM (IsS146.below (i146 HI0.out) hb);clear hb hox1)
   go_loopg [5,6] k1 (fun kq v5 v6 w'=>∃ (x5_2:List (S78)) (x6_2:Int) (x1001_2:Int) (x1002_2:Int),v6 = .int .i64 x6_2∧Aside0 (Xs.l1 kq x3_1 x4_1 x5_2 x6_2 s0_0 x1001_2 x1002_2=some (r1,r2,r3))∧Aside0 (kq≤k1)∧Aside0 (Kd.S (Kd.slice 78 k78) 103 w' w.heap.size (fun k_=>some k_ ≠ (v5:Value).ownBlock) u3 x3_1)∧Aside0 (Kd.R k78 78 w' w.heap.size (fun _=>True) v5 x5_2)∧Aside0 (IsS146 w0 w' g s0_0 x1001_2 x1002_2)∧Aside0 (KeepBut w w' g none)∧Aside0 (Below w0.heap.size w0 w'))
   case atStart=>exact⟨(y107),(0),(t105),(t106),rS,H',⟨Nat.le_refl _⟩,⟨by (with_reducible repeat (first | apply Kd.S_alloc | apply Kd.S_drewN | apply Kd.S_drew));exact Kd.S_mono HO_y1.out (fun _ hk=>hk.2)⟩,⟨(rX HOx1.out)⟩,⟨(i146 HI0.out)⟩,⟨(kX HK.out)⟩,⟨(hY HB.out (IsS146.ge HI0.out))⟩⟩
   case round =>
    clear H'
    try clear c5b0
    obtain⟨x5_2,x6_2,x1001_2,x1002_2,rfl,HA,HKw1,HO_y1,HO_w1,HI0,HK,HB⟩:=hrel
    cases gk with
    | zero=>exact absurd HA.out (by simp[Xs.l1])
    | succ k2 =>
     have H:=HA.out
     clear HA
     simp only[Xs.l1] at H
     replace H:=bE H;obtain⟨⟨t110,t111,t112⟩,A9,H⟩:=H
     try dsimp only at H
     revert H;refine iN ?_ ?_<;>intro c10b0 H
     ·replace H:=ifP H;obtain⟨c16,H⟩:=H
      have LMc16:=aM c16
      clear c16
      obtain⟨y121,hy121⟩:∃ y_:List (List (S78)),y_=(x3_1 ++ [x5_2]):=⟨_,rfl⟩
      replace H:(Xs.l0 k2 y121 (wrap64 (x4_1+1)) s0_0 t111 t112)=some (r1,r2,r3):=yH H hy121
      have Ny121:=aM hy121
      clear hy121
      have H':=aM H
      clear H
      go_wp2_with (first | (refine goesM 76 18 Tryz.func76 #[.pointer (some ⟨g,0,none⟩),.int .i64 4] ?_;refine(Xj.calls g s0_0 x1001_2 x1002_2 4 t110 t111 t112 w0 _ (by repeat (first | (with_reducible first | exact HI0.out | apply IsS146.alloc | apply IsS146.drewN | apply IsS146.drew | apply IsS146.set_1 | apply IsS146.set_2) | exact HI0.out)) (by repeat (first | (with_reducible first | exact HB.out | apply below_alloc | apply pw_below_drewN | apply below_drew1 | refine below_set ?_ (IsS146.ge HI0.out)) | exact HB.out)) A9.out).mono ?_;rintro e wv1 ⟨rfl,hi,hb,hk⟩;refine⟨_,rfl,?_⟩;replace HO_y1:=aM (Kd.S_mono (Kd.S_keep (IsS146.apartS (show IsS146 w0 _ g s0_0 x1001_2 x1002_2 from (i146 HI0.out)) (sX HO_y1.out) (by decide)) hk (fun _ h=>h.2)) (fun _ h=>h.1));replace HO_w1:=aM (Kd.R_mono (Kd.R_keep (IsS146.apart (show IsS146 w0 _ g s0_0 x1001_2 x1002_2 from (i146 HI0.out)) (rX HO_w1.out) (by decide)) hk (fun _ h=>h.2)) (fun _ h=>h.1));replace HK:=aM (KeepBut.trans (kX HK.out) hk (.inl rfl));replace HB:=aM (hb);replace HI0:=aM (hi);clear hb hk hi;obtain⟨Aov1,cov1,eov1⟩:=Kd.R_slice HO_w1.out;subst eov1) | ((with_reducible refine gate_builtin (b:=.append) (xs:=#[.tmp 28,.tmp 30]) rfl ?_);at_builtin;refine Kd.S_append (Kd.slice 78 k78) w.heap.size rfl (.tmp 28) (.tmp 30) 27 103 (.slice none 0 0) 24 rfl Tryz.underlying27 info103 rfl (by decide) (by omega) u3 x3_1 x5_2 [.slice Aov1 x5_2.length cov1] (fun _=>True) (fun k_=>some k_=(.slice Aov1 x5_2.length cov1:Value).ownBlock) rfl rfl ?aP (fun k_ hk_=>((Kd.R_mono (ok':=fun k_=>((fun _=>True)) k_∧some k_ ≠ (u3:Value).ownBlock) (Kd.R_apart' (HO_w1.out) (Kd.S_typed HO_y1.out) (by decide)) (fun k_ hk=>⟨trivial,hk.2⟩))).1 k_ hk_.symm) ?aF ?aO (Below.refl _ _) ?aS ?aL ?_;(case aP=>exact Kd.M_row (Kd.R_mono (Kd.R_tight rfl (Kd.R_mono (ok':=fun k_=>((fun _=>True)) k_∧some k_ ≠ (u3:Value).ownBlock) (Kd.R_apart' (HO_w1.out) (Kd.S_typed HO_y1.out) (by decide)) (fun k_ hk=>⟨trivial,hk.2⟩))) (fun _ h_=>h_)));(case aF=>exact(fun _ _=>trivial));(case aO=>exact(by (with_reducible repeat (first | apply Kd.S_alloc | apply Kd.S_drewN | apply Kd.S_drew));exact Kd.S_mono HO_y1.out (fun k_ hk=>⟨trivial,fun e_=>hk e_⟩)));(case aS=>exact(keep_size (w:=w) (g:=g) (row:=none) (kX HK.out)));(case aL=>have:=LMc16.out;omega);intro vv1 wv2 ho hb hg hat;rw[← Ny121.out] at ho;have HOv1:=aM (ho);replace HB:=aM (below_weaken (hY HB.out (IsS146.ge HI0.out)) HL.out hb);replace HI0:=aM (IsS146.grown (i146 HI0.out) hg (IsS146.own_neS HI0.out HO_y1.out (by decide)));replace HK:=aM (KeepBut.trans (kX HK.out) (KeepBut.of_grown hg g) (Kd.S_base2 HO_y1.out));clear HO_y1 HO_w1;clear ho hb hg hat))
      go_roundg k2
      case measure=>have:=HKy1.out;have:=HKw1.out;omega
      case rel=>exact⟨(y121),(wrap64 (x4_1+1)),(t111),(t112),rS,H',⟨by have:=HKy1.out;have:=HKw1.out;omega⟩,⟨(sX HOv1.out)⟩,⟨(i146 HI0.out)⟩,⟨(kX HK.out)⟩,⟨(hY HB.out (IsS146.ge HI0.out))⟩⟩
     replace H:=bE H;obtain⟨⟨t113,t114,t115,t116,t117⟩,A11,H⟩:=H
     try dsimp only at H
     replace H:=ifP H;obtain⟨c12,H⟩:=H
     have LMc12:=aM c12
     clear c12
     obtain⟨y118,hy118⟩:∃ y_:List (S78),y_=(x5_2 ++ [(⟨t113,t114,t115⟩:S78)]):=⟨_,rfl⟩
     replace H:(Xs.l1 k2 x3_1 x4_1 y118 (wrap64 (x6_2+1)) s0_0 t116 t117)=some (r1,r2,r3):=yH H hy118
     have Ny118:=aM hy118
     clear hy118
     have H':=aM H
     clear H
     go_wp2_with (first | (refine goesM 76 18 Tryz.func76 #[.pointer (some ⟨g,0,none⟩),.int .i64 4] ?_;refine(Xj.calls g s0_0 x1001_2 x1002_2 4 t110 t111 t112 w0 _ (by repeat (first | (with_reducible first | exact HI0.out | apply IsS146.alloc | apply IsS146.drewN | apply IsS146.drew | apply IsS146.set_1 | apply IsS146.set_2) | exact HI0.out)) (by repeat (first | (with_reducible first | exact HB.out | apply below_alloc | apply pw_below_drewN | apply below_drew1 | refine below_set ?_ (IsS146.ge HI0.out)) | exact HB.out)) A9.out).mono ?_;rintro e wv1 ⟨rfl,hi,hb,hk⟩;refine⟨_,rfl,?_⟩;replace HO_y1:=aM (Kd.S_mono (Kd.S_keep (IsS146.apartS (show IsS146 w0 _ g s0_0 x1001_2 x1002_2 from (i146 HI0.out)) (sX HO_y1.out) (by decide)) hk (fun _ h=>h.2)) (fun _ h=>h.1));replace HO_w1:=aM (Kd.R_mono (Kd.R_keep (IsS146.apart (show IsS146 w0 _ g s0_0 x1001_2 x1002_2 from (i146 HI0.out)) (rX HO_w1.out) (by decide)) hk (fun _ h=>h.2)) (fun _ h=>h.1));replace HK:=aM (KeepBut.trans (kX HK.out) hk (.inl rfl));replace HB:=aM (hb);replace HI0:=aM (hi);clear hb hk hi) | (refine goesM 142 25 Tryz.func142 #[.pointer (some ⟨g,0,none⟩)] ?_;refine(Xp.calls k2 g s0_0 t111 t112 t113 t114 t115 t116 t117 w0 _ (by repeat (first | (with_reducible first | exact HI0.out | apply IsS146.alloc | apply IsS146.drewN | apply IsS146.drew | apply IsS146.set_1 | apply IsS146.set_2) | exact HI0.out)) (by repeat (first | (with_reducible first | exact HB.out | apply below_alloc | apply pw_below_drewN | apply below_drew1 | refine below_set ?_ (IsS146.ge HI0.out)) | exact HB.out)) A11.out).mono ?_;rintro e wv2 ⟨rfl,hi,hb,hk⟩;refine⟨_,rfl,?_⟩;replace HO_y1:=aM (Kd.S_mono (Kd.S_keep (IsS146.apartS (show IsS146 w0 _ g s0_0 t111 t112 from (i146 HI0.out)) (sX HO_y1.out) (by decide)) hk (fun _ h=>h.2)) (fun _ h=>h.1));replace HO_w1:=aM (Kd.R_mono (Kd.R_keep (IsS146.apart (show IsS146 w0 _ g s0_0 t111 t112 from (i146 HI0.out)) (rX HO_w1.out) (by decide)) hk (fun _ h=>h.2)) (fun _ h=>h.1));replace HK:=aM (KeepBut.trans (kX HK.out) hk (.inl rfl));replace HB:=aM (hb);replace HI0:=aM (hi);clear hb hk hi) | ((with_reducible refine gate_builtin (b:=.append) (xs:=#[.tmp 23,.tmp 26]) rfl ?_);at_builtin;refine Kd.R_append k78 w.heap.size rfl (.tmp 23) (.tmp 26) 103 78 (.agg #[(.int .i64 0),(.int .i64 0),(.int .i64 0)]) 24 rfl Tryz.underlying103 info78 rfl (by decide) (by omega) u5 x5_2 (⟨t113,t114,t115⟩:S78) [.int .i64 t113,.int .i64 t114,.int .i64 t115] (fun _=>True) (fun _=>False) rfl rfl ?aP (fun _ hk=>hk.elim) ?aF ?aO (Below.refl _ _) ?aS ?aL ?_;(case aP=>exact k78_mkM _ _ _ (⟨t113,t114,t115⟩:S78));(case aF=>exact(fun _ _=>trivial));(case aO=>exact(rX HO_w1.out));(case aS=>exact(keep_size (w:=w) (g:=g) (row:=none) (kX HK.out)));(case aL=>have:=LMc12.out;omega);intro vv1 wv3 ho hb hg hat;rw[← Ny118.out] at ho;have HOv1:=aM (ho);replace HO_y1:=aM (Kd.S_after (ok:=(fun _=>True)) (by (with_reducible repeat (first | apply Kd.S_alloc | apply Kd.S_drewN | apply Kd.S_drew));exact Kd.S_mono HO_y1.out (fun _ hk=>⟨trivial,hk⟩)) hg hat);replace HB:=aM (below_weaken (hY HB.out (IsS146.ge HI0.out)) HL.out hb);replace HI0:=aM (IsS146.grown (i146 HI0.out) hg (IsS146.own_ne HI0.out HO_w1.out (by decide)));replace HK:=aM (KeepBut.trans (kX HK.out) (KeepBut.of_grown hg g) (Kd.R_base2 HO_w1.out));clear HO_w1;clear ho hb hg hat))
     go_roundg k2
     case measure=>have:=HKy1.out;have:=HKw1.out;omega
     case rel=>exact⟨(y118),(wrap64 (x6_2+1)),(t116),(t117),rS,H',⟨by have:=HKy1.out;have:=HKw1.out;omega⟩,⟨by (with_reducible repeat (first | apply Kd.S_alloc | apply Kd.S_drewN | apply Kd.S_drew));exact Kd.S_mono HO_y1.out (fun _ hk=>hk.2)⟩,⟨(rX HOv1.out)⟩,⟨(i146 HI0.out)⟩,⟨(kX HK.out)⟩,⟨(hY HB.out (IsS146.ge HI0.out))⟩⟩
def XaL.f (k:Nat) (s0_0:List Int) (s0_1:Int) (s0_2:Int):Option (Int × Int × Int × Int × Int):=(Xp.f k s0_0 s0_1 s0_2).bind fun bt102=>((Xj.f s0_0 bt102.2.2.2.1 bt102.2.2.2.2 10).bind fun bt108=>(if bt108.1=0 then ((Xj.f s0_0 bt108.2.1 bt108.2.2 13).bind fun bt111=>(some (wrap64 (bt111.1 - 1),bt102.2.1,bt102.2.2.1,bt111.2.1,bt111.2.2))) else (if bt108.1=1 then ((Xj.f s0_0 bt108.2.1 bt108.2.2 7).bind fun bt114=>(some (bt102.1,wrap64 (bt114.1 - 1),bt102.2.2.1,bt114.2.1,bt114.2.2))) else (if bt108.1=2 then ((Xj.f s0_0 bt108.2.1 bt108.2.2 9).bind fun bt117=>(some (bt102.1,bt102.2.1,wrap64 (bt117.1 - 1),bt117.2.1,bt117.2.2))) else (some (bt102.1,bt102.2.1,bt102.2.2.1,bt108.2.1,bt108.2.2))))))
theorem XaL.calls (k:Nat) (g:Nat) (s0_0:List Int) (s0_1:Int) (s0_2:Int) (r1:Int) (r2:Int) (r3:Int) (r4:Int) (r5:Int) (w0 w:World) (hI:IsS146 w0 w g s0_0 s0_1 s0_2) (hB:Below w0.heap.size w0 w) (H:XaL.f k s0_0 s0_1 s0_2=some (r1,r2,r3,r4,r5)) :
  Calls Tryz.prog 77 #[.pointer (some ⟨g,0,none⟩)] w fun e w'=>e = .returned (.agg #[.int .i64 r1,.int .i64 r2,.int .i64 r3])∧IsS146 w0 w' g s0_0 r4 r5∧Below w0.heap.size w0 w'∧KeepBut w w' g none:=by
 have hu78:=Tryz.underlying78
 have HI0:=aM hI
 have HK:=aM (KeepBut.refl w g none)
 have HL:=aM hB.size
 clear hI
 have HW0:=aM hB.size
 have HB:=aM hB
 clear hB
 unfold XaL.f at H
 replace H:=bE H;obtain⟨⟨t102,t103,t104,t105,t106⟩,A2,H⟩:=H
 try dsimp only at H
 replace H:=bE H;obtain⟨⟨t108,t109,t110⟩,A3,H⟩:=H
 try dsimp only at H
 go_enter Tryz.func77,Tryz.ntmps77
 go_wp2_with (first | (refine boxE 2 #[.int .i64 0,.int .i64 0,.int .i64 0] 78 ?_;intro gbz1 hg wz1 hbox hb;have BKz1:=aM (hbox);have GWz1:=aM ((by rw[hg];exact(keep_size (w:=w) (g:=g) (row:=none) (kX HK.out)):w.heap.size≤gbz1));have GEz1:=aM ((Nat.le_trans HW0.out (by rw[hg];exact(keep_size (w:=w) (g:=g) (row:=none) (kX HK.out)):w.heap.size≤gbz1):w0.heap.size≤gbz1));have NBz1:=aM ((by rw[hg];exact Nat.ne_of_lt (IsS146.lt (show IsS146 w0 _ g s0_0 s0_1 s0_2 from (i146 HI0.out))):g ≠ gbz1));have NBz2:=aM ((by rw[hg];exact Nat.ne_of_gt (IsS146.lt (show IsS146 w0 _ g s0_0 s0_1 s0_2 from (i146 HI0.out))):gbz1 ≠ g));replace HK:=aM (KeepBut.trans (kX HK.out) (KeepBut.of_below hb g none) (.inl rfl));replace HB:=aM (below_step (hY HB.out (IsS146.ge HI0.out)) hb);replace HI0:=aM (IsS146.below (i146 HI0.out) hb);clear hb hbox hg) | (refine goesM 142 5 Tryz.func142 #[.pointer (some ⟨g,0,none⟩)] ?_;refine(Xp.calls k g s0_0 s0_1 s0_2 t102 t103 t104 t105 t106 w0 _ (by repeat (first | (with_reducible first | exact HI0.out | apply IsS146.alloc | apply IsS146.drewN | apply IsS146.drew | apply IsS146.set_1 | apply IsS146.set_2 | refine IsS146.far ?_ NBz1.out _) | exact HI0.out)) (by repeat (first | (with_reducible first | exact HB.out | apply below_alloc | apply pw_below_drewN | apply below_drew1 | refine below_set ?_ (IsS146.ge HI0.out) | refine below_set ?_ GEz1.out) | exact HB.out)) A2.out).mono ?_;rintro e wz2 ⟨rfl,hi,hb,hk⟩;refine⟨_,rfl,?_⟩;replace BKz1:=aM (KeepBut.blk hk (g':=gbz1) (o:=.cells #[.int .i64 0,.int .i64 0,.int .i64 0] 78 (0,0)) (bX BKz1.out) NBz2.out (by simp));replace HK:=aM (KeepBut.trans (kX HK.out) hk (.inl rfl));replace HB:=aM (hb);replace HI0:=aM (hi);clear hb hk hi) | (refine boxE 3 #[.int .i64 0,.int .i64 0,.int .i64 0] 78 ?_;intro gbz2 hg wz3 hbox hb;have BKz2:=aM (hbox);have GWz2:=aM ((by rw[hg];exact(keep_size (w:=w) (g:=g) (row:=none) (kX HK.out)):w.heap.size≤gbz2));have GEz2:=aM ((Nat.le_trans HW0.out (by rw[hg];exact(keep_size (w:=w) (g:=g) (row:=none) (kX HK.out)):w.heap.size≤gbz2):w0.heap.size≤gbz2));have NBz3:=aL hg BKz1;have NBz4:=aR hg BKz1;have NBz5:=aM ((by rw[hg];exact Nat.ne_of_lt (IsS146.lt (show IsS146 w0 _ g s0_0 t105 t106 from (i146 HI0.out))):g ≠ gbz2));have NBz6:=aM ((by rw[hg];exact Nat.ne_of_gt (IsS146.lt (show IsS146 w0 _ g s0_0 t105 t106 from (i146 HI0.out))):gbz2 ≠ g));replace BKz1:=aB BKz1 hb;replace HK:=aM (KeepBut.trans (kX HK.out) (KeepBut.of_below hb g none) (.inl rfl));replace HB:=aM (below_step (hY HB.out (IsS146.ge HI0.out)) hb);replace HI0:=aM (IsS146.below (i146 HI0.out) hb);clear hb hbox hg;have hnbz1:=nB NBz4 NBz3;have hnbz2:=nB NBz6 NBz5;have hczz1:=cZ3 BKz2.out;refine Stop.out ?_))
 refine⟨?_⟩
 revert H;refine eP ?_ ?_<;>intro c4b0 c4b1 H
 ·replace H:=bE H;obtain⟨⟨t111,t112,t113⟩,A5,H⟩:=H
  try dsimp only at H
  simp only[Option.some.injEq,Prod.mk.injEq] at H
  obtain⟨rfl,rfl,rfl,rfl,rfl⟩:=H
  go_wp2_with (first | (refine goesM 76 7 Tryz.func76 #[.pointer (some ⟨g,0,none⟩),.int .i64 10] ?_;refine(Xj.calls g s0_0 t105 t106 10 t108 t109 t110 w0 _ (by repeat (first | (with_reducible first | exact HI0.out | apply IsS146.alloc | apply IsS146.drewN | apply IsS146.drew | apply IsS146.set_1 | apply IsS146.set_2 | refine IsS146.far ?_ NBz1.out _ | refine IsS146.far ?_ NBz5.out _) | exact HI0.out)) (by repeat (first | (with_reducible first | exact HB.out | apply below_alloc | apply pw_below_drewN | apply below_drew1 | refine below_set ?_ (IsS146.ge HI0.out) | refine below_set ?_ GEz1.out | refine below_set ?_ GEz2.out) | exact HB.out)) A3.out).mono ?_;rintro e wz4 ⟨rfl,hi,hb,hk⟩;refine⟨_,rfl,?_⟩;replace BKz1:=aM (KeepBut.blk hk (g':=gbz1) (o:=.cells #[.int .i64 0,.int .i64 0,.int .i64 0] 78 (0,0)) (bF BKz1.out) NBz2.out (by simp));replace BKz2:=aM (KeepBut.blk hk (g':=gbz2) (o:=.cells #[.int .i64 t102,.int .i64 t103,.int .i64 t104] 78 (0,0)) (bP BKz2.out) NBz6.out (by simp));replace HK:=aM (KeepBut.trans (kX HK.out) hk (.inl rfl));replace HB:=aM (hb);replace HI0:=aM (hi);clear hb hk hi) | (refine goesM 76 11 Tryz.func76 #[.pointer (some ⟨g,0,none⟩),.int .i64 13] ?_;refine(Xj.calls g s0_0 t109 t110 13 t111 t112 t113 w0 _ (by repeat (first | (with_reducible first | exact HI0.out | apply IsS146.alloc | apply IsS146.drewN | apply IsS146.drew | apply IsS146.set_1 | apply IsS146.set_2 | refine IsS146.far ?_ NBz1.out _ | refine IsS146.far ?_ NBz5.out _) | exact HI0.out)) (by repeat (first | (with_reducible first | exact HB.out | apply below_alloc | apply pw_below_drewN | apply below_drew1 | refine below_set ?_ (IsS146.ge HI0.out) | refine below_set ?_ GEz1.out | refine below_set ?_ GEz2.out) | exact HB.out)) A5.out).mono ?_;rintro e wz5 ⟨rfl,hi,hb,hk⟩;refine⟨_,rfl,?_⟩;replace BKz1:=aM (KeepBut.blk hk (g':=gbz1) (o:=.cells #[.int .i64 0,.int .i64 0,.int .i64 0] 78 (0,0)) (bX BKz1.out) NBz2.out (by simp));replace BKz2:=aM (KeepBut.blk hk (g':=gbz2) (o:=.cells #[.int .i64 t102,.int .i64 t103,.int .i64 t104] 78 (0,0)) (bX BKz2.out) NBz6.out (by simp));replace HK:=aM (KeepBut.trans (kX HK.out) hk (.inl rfl));replace HB:=aM (hb);replace HI0:=aM (hi);clear hb hk hi;have hczz4:=cZ3 BKz2.out;have hnbz3:=NBz2.out;have hncz3:=NBz1.out;have hczz7:=cZ3 BKz1.out))
  refine bodyPost_ret (results_cell_row rfl _ _ gbz1 78 #[.int .i64 (wrap64 (t111 - 1)),.int .i64 t103,.int .i64 t104] (0,0) _ rfl (bP BKz1.out) Tryz.underlying78 rfl (by kernel_rfl)) rfl ?_
  exact⟨rE,(i146 HI0.out),(hY HB.out (IsS146.ge HI0.out)),(kX HK.out)⟩
 revert H;refine eP ?_ ?_<;>intro c17b0 c17b1 H
 ·replace H:=bE H;obtain⟨⟨t114,t115,t116⟩,A18,H⟩:=H
  try dsimp only at H
  simp only[Option.some.injEq,Prod.mk.injEq] at H
  obtain⟨rfl,rfl,rfl,rfl,rfl⟩:=H
  go_wp2_with (first | (refine goesM 76 7 Tryz.func76 #[.pointer (some ⟨g,0,none⟩),.int .i64 10] ?_;refine(Xj.calls g s0_0 t105 t106 10 t108 t109 t110 w0 _ (by repeat (first | (with_reducible first | exact HI0.out | apply IsS146.alloc | apply IsS146.drewN | apply IsS146.drew | apply IsS146.set_1 | apply IsS146.set_2 | refine IsS146.far ?_ NBz1.out _ | refine IsS146.far ?_ NBz5.out _) | exact HI0.out)) (by repeat (first | (with_reducible first | exact HB.out | apply below_alloc | apply pw_below_drewN | apply below_drew1 | refine below_set ?_ (IsS146.ge HI0.out) | refine below_set ?_ GEz1.out | refine below_set ?_ GEz2.out) | exact HB.out)) A3.out).mono ?_;rintro e wz4 ⟨rfl,hi,hb,hk⟩;refine⟨_,rfl,?_⟩;replace BKz1:=aM (KeepBut.blk hk (g':=gbz1) (o:=.cells #[.int .i64 0,.int .i64 0,.int .i64 0] 78 (0,0)) (bF BKz1.out) NBz2.out (by simp));replace BKz2:=aM (KeepBut.blk hk (g':=gbz2) (o:=.cells #[.int .i64 t102,.int .i64 t103,.int .i64 t104] 78 (0,0)) (bP BKz2.out) NBz6.out (by simp));replace HK:=aM (KeepBut.trans (kX HK.out) hk (.inl rfl));replace HB:=aM (hb);replace HI0:=aM (hi);clear hb hk hi) | (refine goesM 76 17 Tryz.func76 #[.pointer (some ⟨g,0,none⟩),.int .i64 7] ?_;refine(Xj.calls g s0_0 t109 t110 7 t114 t115 t116 w0 _ (by repeat (first | (with_reducible first | exact HI0.out | apply IsS146.alloc | apply IsS146.drewN | apply IsS146.drew | apply IsS146.set_1 | apply IsS146.set_2 | refine IsS146.far ?_ NBz1.out _ | refine IsS146.far ?_ NBz5.out _) | exact HI0.out)) (by repeat (first | (with_reducible first | exact HB.out | apply below_alloc | apply pw_below_drewN | apply below_drew1 | refine below_set ?_ (IsS146.ge HI0.out) | refine below_set ?_ GEz1.out | refine below_set ?_ GEz2.out) | exact HB.out)) A18.out).mono ?_;rintro e wz5 ⟨rfl,hi,hb,hk⟩;refine⟨_,rfl,?_⟩;replace BKz1:=aM (KeepBut.blk hk (g':=gbz1) (o:=.cells #[.int .i64 0,.int .i64 0,.int .i64 0] 78 (0,0)) (bX BKz1.out) NBz2.out (by simp));replace BKz2:=aM (KeepBut.blk hk (g':=gbz2) (o:=.cells #[.int .i64 t102,.int .i64 t103,.int .i64 t104] 78 (0,0)) (bX BKz2.out) NBz6.out (by simp));replace HK:=aM (KeepBut.trans (kX HK.out) hk (.inl rfl));replace HB:=aM (hb);replace HI0:=aM (hi);clear hb hk hi;have hczz4:=cZ3 BKz2.out;have hnbz3:=NBz2.out;have hncz3:=NBz1.out;have hczz7:=cZ3 BKz1.out))
  refine bodyPost_ret (results_cell_row rfl _ _ gbz1 78 #[.int .i64 t102,.int .i64 (wrap64 (t114 - 1)),.int .i64 t104] (0,0) _ rfl (bP BKz1.out) Tryz.underlying78 rfl (by kernel_rfl)) rfl ?_
  exact⟨rE,(i146 HI0.out),(hY HB.out (IsS146.ge HI0.out)),(kX HK.out)⟩
 revert H;refine eN ?_ ?_<;>intro c30b0 c30b1 H
 ·simp only[Option.some.injEq,Prod.mk.injEq] at H
  obtain⟨rfl,rfl,rfl,rfl,rfl⟩:=H
  go_wp2_with (refine goesM 76 7 Tryz.func76 #[.pointer (some ⟨g,0,none⟩),.int .i64 10] ?_;refine(Xj.calls g s0_0 t105 t106 10 t108 t109 t110 w0 _ (by repeat (first | (with_reducible first | exact HI0.out | apply IsS146.alloc | apply IsS146.drewN | apply IsS146.drew | apply IsS146.set_1 | apply IsS146.set_2 | refine IsS146.far ?_ NBz1.out _ | refine IsS146.far ?_ NBz5.out _) | exact HI0.out)) (by repeat (first | (with_reducible first | exact HB.out | apply below_alloc | apply pw_below_drewN | apply below_drew1 | refine below_set ?_ (IsS146.ge HI0.out) | refine below_set ?_ GEz1.out | refine below_set ?_ GEz2.out) | exact HB.out)) A3.out).mono ?_;rintro e wz4 ⟨rfl,hi,hb,hk⟩;refine⟨_,rfl,?_⟩;replace BKz1:=aM (KeepBut.blk hk (g':=gbz1) (o:=.cells #[.int .i64 0,.int .i64 0,.int .i64 0] 78 (0,0)) (bF BKz1.out) NBz2.out (by simp));replace BKz2:=aM (KeepBut.blk hk (g':=gbz2) (o:=.cells #[.int .i64 t102,.int .i64 t103,.int .i64 t104] 78 (0,0)) (bP BKz2.out) NBz6.out (by simp));replace HK:=aM (KeepBut.trans (kX HK.out) hk (.inl rfl));replace HB:=aM (hb);replace HI0:=aM (hi);clear hb hk hi;have hczz4:=cZ3 BKz2.out;have hnbz3:=NBz2.out;have hncz3:=NBz1.out;have hczz7:=cZ3 BKz1.out)
  refine bodyPost_ret (results_cell_row rfl _ _ gbz1 78 #[.int .i64 t102,.int .i64 t103,.int .i64 t104] (0,0) _ rfl (bP BKz1.out) Tryz.underlying78 rfl (by kernel_rfl)) rfl ?_
  exact⟨rE,(i146 HI0.out),(hY HB.out (IsS146.ge HI0.out)),(kX HK.out)⟩
 replace H:=bE H;obtain⟨⟨t117,t118,t119⟩,A31,H⟩:=H
 try dsimp only at H
 simp only[Option.some.injEq,Prod.mk.injEq] at H
 obtain⟨rfl,rfl,rfl,rfl,rfl⟩:=H
 go_wp2_with (first | (refine goesM 76 7 Tryz.func76 #[.pointer (some ⟨g,0,none⟩),.int .i64 10] ?_;refine(Xj.calls g s0_0 t105 t106 10 t108 t109 t110 w0 _ (by repeat (first | (with_reducible first | exact HI0.out | apply IsS146.alloc | apply IsS146.drewN | apply IsS146.drew | apply IsS146.set_1 | apply IsS146.set_2 | refine IsS146.far ?_ NBz1.out _ | refine IsS146.far ?_ NBz5.out _) | exact HI0.out)) (by repeat (first | (with_reducible first | exact HB.out | apply below_alloc | apply pw_below_drewN | apply below_drew1 | refine below_set ?_ (IsS146.ge HI0.out) | refine below_set ?_ GEz1.out | refine below_set ?_ GEz2.out) | exact HB.out)) A3.out).mono ?_;rintro e wz4 ⟨rfl,hi,hb,hk⟩;refine⟨_,rfl,?_⟩;replace BKz1:=aM (KeepBut.blk hk (g':=gbz1) (o:=.cells #[.int .i64 0,.int .i64 0,.int .i64 0] 78 (0,0)) (bF BKz1.out) NBz2.out (by simp));replace BKz2:=aM (KeepBut.blk hk (g':=gbz2) (o:=.cells #[.int .i64 t102,.int .i64 t103,.int .i64 t104] 78 (0,0)) (bP BKz2.out) NBz6.out (by simp));replace HK:=aM (KeepBut.trans (kX HK.out) hk (.inl rfl));replace HB:=aM (hb);replace HI0:=aM (hi);clear hb hk hi) | (refine goesM 76 23 Tryz.func76 #[.pointer (some ⟨g,0,none⟩),.int .i64 9] ?_;refine(Xj.calls g s0_0 t109 t110 9 t117 t118 t119 w0 _ (by repeat (first | (with_reducible first | exact HI0.out | apply IsS146.alloc | apply IsS146.drewN | apply IsS146.drew | apply IsS146.set_1 | apply IsS146.set_2 | refine IsS146.far ?_ NBz1.out _ | refine IsS146.far ?_ NBz5.out _) | exact HI0.out)) (by repeat (first | (with_reducible first | exact HB.out | apply below_alloc | apply pw_below_drewN | apply below_drew1 | refine below_set ?_ (IsS146.ge HI0.out) | refine below_set ?_ GEz1.out | refine below_set ?_ GEz2.out) | exact HB.out)) A31.out).mono ?_;rintro e wz5 ⟨rfl,hi,hb,hk⟩;refine⟨_,rfl,?_⟩;replace BKz1:=aM (KeepBut.blk hk (g':=gbz1) (o:=.cells #[.int .i64 0,.int .i64 0,.int .i64 0] 78 (0,0)) (bX BKz1.out) NBz2.out (by simp));replace BKz2:=aM (KeepBut.blk hk (g':=gbz2) (o:=.cells #[.int .i64 t102,.int .i64 t103,.int .i64 t104] 78 (0,0)) (bX BKz2.out) NBz6.out (by simp));replace HK:=aM (KeepBut.trans (kX HK.out) hk (.inl rfl));replace HB:=aM (hb);replace HI0:=aM (hi);clear hb hk hi;have hczz4:=cZ3 BKz2.out;have hnbz3:=NBz2.out;have hncz3:=NBz1.out;have hczz7:=cZ3 BKz1.out))
 refine bodyPost_ret (results_cell_row rfl _ _ gbz1 78 #[.int .i64 t102,.int .i64 t103,.int .i64 (wrap64 (t117 - 1))] (0,0) _ rfl (bP BKz1.out) Tryz.underlying78 rfl (by kernel_rfl)) rfl ?_
 exact⟨rE,(i146 HI0.out),(hY HB.out (IsS146.ge HI0.out)),(kX HK.out)⟩
end Go.Proofs.YthejoblnfpaojaaGreat.P
