/- A part of the proof of the law FnStarts: texts of this seat, merged (words, printed functions of the program, plain lemmas). Conditions: none of its own. -/
import Derived.Test.YthejoblnfpaojaaGreatPkFnStarts13
import Derived.Test.YthejoblnfpaojaaGreatPkFnStarts14
set_option linter.unusedSimpArgs false
set_option linter.unusedVariables false
set_option maxHeartbeats 8000000
set_option maxRecDepth 100000
namespace Go.Proofs.YthejoblnfpaojaaGreat.P
open Go.Proofs.YthejoblnfpaojaaGreatZ Go.RowKit Go.Proofs.YthejoblnfpaojaaGreatW.PrintWords Go.Proofs.YthejoblnfpaojaaGreatW.PrintLast Go.Proofs.YthejoblnfpaojaaGreatW.PrintMore
attribute [local go_sem] max2_int min2_int max_two min_two max_three min_three max_four min_four   -- for this text's walks alone
mutual
def Xm.j0:Nat→Bool→List (S51)→List (S58)→Option (Bool)
 | 0,_,_,_=>none
 | k+1,x18,x102000,x102001=>if x18=true then (some false) else (Xm.l0 k 0 x102000 x102001)
def Xm.l0:Nat→Int→List (S51)→List (S58)→Option (Bool)
 | 0,_,_,_=>none
 | k+1,x3,x102000,x102001=>if x3<(x102001.length:Int) then (if 0≤x3 then ((Xg.f k ((rd_T58 x102001 x3).f0) ((rd_T58 x102001 x3).f1) ((rd_T58 x102001 x3).f2) ((rd_T58 x102001 x3).f3.f0) ((rd_T58 x102001 x3).f3.f1)).bind fun t104=>(if t104=true then (Xm.l0 k (wrap64 (x3+1)) x102000 x102001) else (some false))) else (none)) else (Xm.l1 k 0 x102000 x102001)
def Xm.l1:Nat→Int→List (S51)→List (S58)→Option (Bool)
 | 0,_,_,_=>none
 | k+1,x4,x102000,x102001=>if x4<(x102000.length:Int) then (if 0≤x4 then ((Xad.f ((rd_T51 x102000 x4).f0) ((rd_T51 x102000 x4).f1) ((rd_T51 x102000 x4).f2) (x102001.length:Int)).bind fun t107=>(if t107=true then (if ((rd_T51 x102000 x4).f1) > 0 then (if 0≤(wrap64 (((rd_T51 x102000 x4).f1) - 1)) then (if (wrap64 (((rd_T51 x102000 x4).f1) - 1))<(x102001.length:Int) then ((XO.f k ((rd_T58 x102001 (wrap64 (((rd_T51 x102000 x4).f1) - 1))).f0) ((rd_T58 x102001 (wrap64 (((rd_T51 x102000 x4).f1) - 1))).f1) ((rd_T58 x102001 (wrap64 (((rd_T51 x102000 x4).f1) - 1))).f2) ((rd_T58 x102001 (wrap64 (((rd_T51 x102000 x4).f1) - 1))).f3.f0) ((rd_T58 x102001 (wrap64 (((rd_T51 x102000 x4).f1) - 1))).f3.f1) x4).bind fun bt109=>(if bt109.2.2.2=true then (if ((rd_T58 x102001 (wrap64 (((rd_T51 x102000 x4).f1) - 1))).f0)=((rd_T51 x102000 x4).f2) then (Xm.l1 k (wrap64 (x4+1)) x102000 x102001) else (some false)) else (some false))) else (none)) else (none)) else (Xm.l1 k (wrap64 (x4+1)) x102000 x102001)) else (some false))) else (none)) else (some true)
end
def Xm.f (k:Nat) (l0_0:List (S51)) (l0_1:List (S58)):Option (Bool):=if (l0_0.length:Int)=20 then ((Xb.f (l0_1.length:Int) 1 4).bind fun t102=>(Xm.j0 k (!t102) l0_0 l0_1)) else (Xm.j0 k true l0_0 l0_1)
theorem Xm.calls (k:Nat) (A0_0:Option Addr) (c0_0:Nat) (l0_0:List (S51)) (A0_1:Option Addr) (c0_1:Nat) (l0_1:List (S58)) (r:Bool) (w:World) (h0_0:Rw k51 w A0_0 c0_0 l0_0) (h0_1:Rw k58 w A0_1 c0_1 l0_1) (H:Xm.f k l0_0 l0_1=some r) :
  Calls Tryz.prog 30 #[.agg #[.slice A0_0 l0_0.length c0_0,.slice A0_1 l0_1.length c0_1]] w fun e w'=>e = .returned (.bool r)∧Below w.heap.size w w':=by
 have hu33:=Tryz.underlying33
 have hu58:=Tryz.underlying58
 have hu51:=Tryz.underlying51
 have hu63:=Tryz.underlying63
 obtain⟨HR0_0,HC0_0⟩:=h0_0
 obtain⟨HR0_1,HC0_1⟩:=h0_1
 have HB:=aM (Below.refl w.heap.size w)
 unfold Xm.f at H
 have HC2:=aM H
 clear H
 go_enter Tryz.func30,Tryz.ntmps30
 go_upto_region 1 with((with_reducible refine gate_dst (N:=1) rfl ?_);(try (refine gate_guard (by rfl) ?_;dsimp only));refine boxF 1 #[.slice A0_0 l0_0.length c0_0,.slice A0_1 l0_1.length c0_1] 33 ?_;intro gbz1 hg wz1 hbox hb;have BKz1:=aM (hbox);have GWz1:=aG hg HB;have GEz1:=aG hg HB;replace HB:=aS HB hb;clear hb hbox hg)
 repeat (go_quiet (fail);go_upto_region 1 with((with_reducible refine gate_dst (N:=1) rfl ?_);(try (refine gate_guard (by rfl) ?_;dsimp only));refine boxF 1 #[.slice A0_0 l0_0.length c0_0,.slice A0_1 l0_1.length c0_1] 33 ?_;intro gbz1 hg wz1 hbox hb;have BKz1:=aM (hbox);have GWz1:=aG hg HB;have GEz1:=aG hg HB;replace HB:=aS HB hb;clear hb hbox hg))
 (try simp only[Act.put,List.setIfInBounds_toArray,List.set_cons_zero,List.set_cons_succ])
 go_cut [18] (fun vz1 wc=>∃ (kq:Nat) (x18_1:Bool),vz1 = .bool x18_1∧Aside0 (Xm.j0 kq x18_1 l0_0 l0_1=some r)∧Aside0 (kq≤k)∧Aside0 (wc.heap[gbz1]? = some (.cells #[(.slice A0_0 l0_0.length c0_0),(.slice A0_1 l0_1.length c0_1)] 33 (0,0)))∧Aside0 (Below w.heap.size w wc))
 case first =>
  have H:=HC2.out
  clear HC2
  revert H;refine eN ?_ ?_<;>intro c4b0 c4b1 H
  ·(first | rw[c4b0] | (simp only[i64_w,i32_w];rw[c4b0]) | skip)
   have H':=aM H
   clear H
   have hczy1:=cZ2 BKz1.out
   go_wp2
   repeat (go_quiet (fail);try go_wp2)
   go_meet
   case rel=>exact⟨_,(true),rS,H',⟨by first | omega | exact Nat.le_refl _⟩,⟨(bX BKz1.out)⟩,⟨(hX HB.out)⟩⟩
  (first | rw[c4b0] | (simp only[i64_w,i32_w];rw[c4b0]) | skip)
  replace H:=bE H;obtain⟨t102,A5,H⟩:=H
  have H':=aM H
  clear H
  have hczy1:=cZ2 BKz1.out
  go_wp2_with (go_at_call 95;(with_reducible refine(Xb.calls _ _ _ _ _ A5.out).mono ?_);rintro e w' ⟨rfl,⟨nd,rfl⟩⟩;(try first | exact⟨rfl,_,World.drewN_drewN _ _ _⟩ | exact⟨rfl,_,Eq.trans (World.drewN_drewN _ _ _) (congrArg (World.drewN _) (Nat.add_assoc _ _ _))⟩))
  repeat (go_quiet (fail);try go_wp2_with (go_at_call 95;(with_reducible refine(Xb.calls _ _ _ _ _ A5.out).mono ?_);rintro e w' ⟨rfl,⟨nd,rfl⟩⟩;(try first | exact⟨rfl,_,World.drewN_drewN _ _ _⟩ | exact⟨rfl,_,Eq.trans (World.drewN_drewN _ _ _) (congrArg (World.drewN _) (Nat.add_assoc _ _ _))⟩)))
  go_meet
  case rel=>exact⟨_,(!t102),rS,H',⟨by first | omega | exact Nat.le_refl _⟩,⟨(bX BKz1.out)⟩,⟨(hX HB.out)⟩⟩
 case rest =>
  clear HC2
  obtain⟨kq,x18_1,rfl,HA,HJy1,BKz1,HB⟩:=hcut
  cases kq with
  | zero=>exact absurd HA.out (by simp[Xm.j0])
  | succ kj1 =>
   have H:=HA.out
   clear HA
   simp only[Xm.j0] at H
   cases x18_1
   case true =>
    rw[if_pos rfl] at H
    obtain rfl:=sI H
    go_wp2
    repeat (go_quiet (fail);try go_wp2)
    go_ret
    exact⟨rE,(hX HB.out)⟩
   rw[if_neg nft] at H
   have H':=aM H
   clear H
   go_wp2
   repeat (go_quiet (fail);try go_wp2)
   go_loopg [3] kj1 (fun kq v3 w'=>∃ (x3_2:Int),v3 = .int .i64 x3_2∧Aside0 (Xm.l0 kq x3_2 l0_0 l0_1=some r)∧Aside0 (kq≤kj1)∧Aside0 (w'.heap[gbz1]? = some (.cells #[(.slice A0_0 l0_0.length c0_0),(.slice A0_1 l0_1.length c0_1)] 33 (0,0)))∧Aside0 (Below w.heap.size w w'))
   case atStart=>exact⟨(0),rS,H',⟨Nat.le_refl _⟩,⟨(bX BKz1.out)⟩,⟨(hX HB.out)⟩⟩
   case round =>
    clear H'
    obtain⟨x3_2,rfl,HA,HKw1,BKz1,HB⟩:=hrel
    cases gk with
    | zero=>exact absurd HA.out (by simp[Xm.l0])
    | succ k2 =>
     have H:=HA.out
     clear HA
     simp only[Xm.l0] at H
     revert H;refine iP ?_ ?_<;>intro c9b0 H
     ·replace H:=ifP H;obtain⟨c10,H⟩:=H
      have c10b0:=decide_eq_true c10
      clear c10
      replace H:=bE H;obtain⟨t104,A11,H⟩:=H
      cases t104
      case false =>
       rw[if_neg nft] at H
       obtain rfl:=sI H
       have hczv1:=cZ2 BKz1.out
       obtain⟨adv1,Av1,cv1,Av2,cv2,ev1,pv1,qv1,hxv1,HCv1,HRv1,HCv2,HRv2⟩:=at_T58c HR0_1 HB x3_2
       cases ev1
       go_wp2_with (go_at_call 34;(with_reducible refine(Xg.calls _ _ _ _ _ _ _ _ _ _ _ _ (rW HRv1 HB HCv1) (rW HRv2 HB HCv2) A11.out).mono ?_);rintro e wv1 ⟨rfl,hb⟩;replace BKz1:=aB BKz1 hb;replace HB:=aS HB hb;clear hb)
       repeat (go_quiet (fail);try go_wp2_with (go_at_call 34;(with_reducible refine(Xg.calls _ _ _ _ _ _ _ _ _ _ _ _ (rW HRv1 HB HCv1) (rW HRv2 HB HCv2) A11.out).mono ?_);rintro e wv1 ⟨rfl,hb⟩;replace BKz1:=aB BKz1 hb;replace HB:=aS HB hb;clear hb))
       go_ret
       exact⟨rE,(hX HB.out)⟩
      rw[if_pos rfl] at H
      have H':=aM H
      clear H
      have hczv1:=cZ2 BKz1.out
      obtain⟨adv1,Av1,cv1,Av2,cv2,ev1,pv1,qv1,hxv1,HCv1,HRv1,HCv2,HRv2⟩:=at_T58c HR0_1 HB x3_2
      cases ev1
      go_wp2_with (go_at_call 34;(with_reducible refine(Xg.calls _ _ _ _ _ _ _ _ _ _ _ _ (rW HRv1 HB HCv1) (rW HRv2 HB HCv2) A11.out).mono ?_);rintro e wv1 ⟨rfl,hb⟩;replace BKz1:=aB BKz1 hb;replace HB:=aS HB hb;clear hb)
      repeat (go_quiet (fail);try go_wp2_with (go_at_call 34;(with_reducible refine(Xg.calls _ _ _ _ _ _ _ _ _ _ _ _ (rW HRv1 HB HCv1) (rW HRv2 HB HCv2) A11.out).mono ?_);rintro e wv1 ⟨rfl,hb⟩;replace BKz1:=aB BKz1 hb;replace HB:=aS HB hb;clear hb))
      go_roundg k2
      case measure=>have:=HJy1.out;have:=HKw1.out;omega
      case rel=>exact⟨(wrap64 (x3_2+1)),rS,H',⟨by have:=HJy1.out;have:=HKw1.out;omega⟩,⟨(bX BKz1.out)⟩,⟨(hX HB.out)⟩⟩
     have H':=aM H
     clear H
     have hczv1:=cZ2 BKz1.out
     go_wp2
     repeat (go_quiet (fail);try go_wp2)
     go_loopg [4] k2 (fun kq v4 w'=>∃ (x4_3:Int),v4 = .int .i64 x4_3∧Aside0 (Xm.l1 kq x4_3 l0_0 l0_1=some r)∧Aside0 (kq≤k2)∧Aside0 (w'.heap[gbz1]? = some (.cells #[(.slice A0_0 l0_0.length c0_0),(.slice A0_1 l0_1.length c0_1)] 33 (0,0)))∧Aside0 (Below w.heap.size w w'))
     case atStart=>exact⟨(0),rS,H',⟨Nat.le_refl _⟩,⟨(bX BKz1.out)⟩,⟨(hX HB.out)⟩⟩
     case round =>
      clear H'
      try clear c9b0
      try clear hczv1
      obtain⟨x4_3,rfl,HA,HKu1,BKz1,HB⟩:=hrel
      cases gk with
      | zero=>exact absurd HA.out (by simp[Xm.l1])
      | succ k3 =>
       have H:=HA.out
       clear HA
       simp only[Xm.l1] at H
       revert H;refine iN ?_ ?_<;>intro c18b0 H
       ·obtain rfl:=sI H
        have hczt1:=cZ2 BKz1.out
        go_wp2
        repeat (go_quiet (fail);try go_wp2)
        go_ret
        exact⟨rE,(hX HB.out)⟩
       replace H:=ifQ H;obtain⟨c19b0,H⟩:=H
       replace H:=bE H;obtain⟨t107,A20,H⟩:=H
       have hczt1:=cZ2 BKz1.out
       obtain⟨adt1,et1,pt1,qt1,hxt1⟩:=at_T51c HR0_0 HB x4_3
       cases et1
       go_wp2_with ((with_reducible refine gate_dst (N:=5) rfl ?_);(try (refine gate_guard (by rfl) ?_;dsimp only));refine boxF 5 #[.int .i64 0,.int .i64 0,.int .i64 0] 51 ?_;intro gbt1 hg wt1 hbox hb;have BKt1:=aM (hbox);have GWt1:=aG hg HB;have GEt1:=aG hg HB;have NBt1:=aL hg BKz1;have NBt2:=aR hg BKz1;replace BKz1:=aB BKz1 hb;replace HB:=aS HB hb;clear hb hbox hg;have hnbt1:=NBt2.out;have hnct1:=NBt1.out;have hczt3:=cZ3 BKt1.out;have hczt6:=cZ2 BKz1.out;refine Stop.out ?_)
       refine⟨?_⟩
       cases t107
       case false =>
        rw[if_neg nft] at H
        obtain rfl:=sI H
        go_wp2_with (go_at_call 32;(with_reducible refine(Xad.calls _ _ _ _ _ _ A20.out).mono ?_);rintro e wt2 ⟨rfl,hb⟩;replace BKz1:=aF BKz1 hb;replace BKt1:=aM (blk_below (g:=gbt1) (o:=.cells #[.int .i64 ((rd_T51 l0_0 x4_3).f0),.int .i64 ((rd_T51 l0_0 x4_3).f1),.int .i64 ((rd_T51 l0_0 x4_3).f2)] 51 (0,0)) (bP BKt1.out) hb);replace HB:=aS HB hb;clear hb)
        repeat (go_quiet (fail);try go_wp2_with (first | ((with_reducible refine gate_dst (N:=5) rfl ?_);(try (refine gate_guard (by rfl) ?_;dsimp only));refine boxF 5 #[.int .i64 0,.int .i64 0,.int .i64 0] 51 ?_;intro gbt1 hg wt1 hbox hb;have BKt1:=aM (hbox);have GWt1:=aG hg HB;have GEt1:=aG hg HB;have NBt1:=aL hg BKz1;have NBt2:=aR hg BKz1;replace BKz1:=aB BKz1 hb;replace HB:=aS HB hb;clear hb hbox hg;have hnbt1:=NBt2.out;have hnct1:=NBt1.out;have hczt3:=cZ3 BKt1.out;have hczt6:=cZ2 BKz1.out) | (go_at_call 32;(with_reducible refine(Xad.calls _ _ _ _ _ _ A20.out).mono ?_);rintro e wt2 ⟨rfl,hb⟩;replace BKz1:=aF BKz1 hb;replace BKt1:=aM (blk_below (g:=gbt1) (o:=.cells #[.int .i64 ((rd_T51 l0_0 x4_3).f0),.int .i64 ((rd_T51 l0_0 x4_3).f1),.int .i64 ((rd_T51 l0_0 x4_3).f2)] 51 (0,0)) (bP BKt1.out) hb);replace HB:=aS HB hb;clear hb)))
        go_ret
        exact⟨rE,(hX HB.out)⟩
       rw[if_pos rfl] at H
       revert H;refine iN ?_ ?_<;>intro c22b0 H
       ·have H':=aM H
        clear H
        go_wp2_with (go_at_call 32;(with_reducible refine(Xad.calls _ _ _ _ _ _ A20.out).mono ?_);rintro e wt2 ⟨rfl,hb⟩;replace BKz1:=aF BKz1 hb;replace BKt1:=aM (blk_below (g:=gbt1) (o:=.cells #[.int .i64 ((rd_T51 l0_0 x4_3).f0),.int .i64 ((rd_T51 l0_0 x4_3).f1),.int .i64 ((rd_T51 l0_0 x4_3).f2)] 51 (0,0)) (bP BKt1.out) hb);replace HB:=aS HB hb;clear hb;have hczt8:=cZ3 BKt1.out)
        repeat (go_quiet (fail);try go_wp2_with (first | ((with_reducible refine gate_dst (N:=5) rfl ?_);(try (refine gate_guard (by rfl) ?_;dsimp only));refine boxF 5 #[.int .i64 0,.int .i64 0,.int .i64 0] 51 ?_;intro gbt1 hg wt1 hbox hb;have BKt1:=aM (hbox);have GWt1:=aG hg HB;have GEt1:=aG hg HB;have NBt1:=aL hg BKz1;have NBt2:=aR hg BKz1;replace BKz1:=aB BKz1 hb;replace HB:=aS HB hb;clear hb hbox hg;have hnbt1:=NBt2.out;have hnct1:=NBt1.out;have hczt3:=cZ3 BKt1.out;have hczt6:=cZ2 BKz1.out) | (go_at_call 32;(with_reducible refine(Xad.calls _ _ _ _ _ _ A20.out).mono ?_);rintro e wt2 ⟨rfl,hb⟩;replace BKz1:=aF BKz1 hb;replace BKt1:=aM (blk_below (g:=gbt1) (o:=.cells #[.int .i64 ((rd_T51 l0_0 x4_3).f0),.int .i64 ((rd_T51 l0_0 x4_3).f1),.int .i64 ((rd_T51 l0_0 x4_3).f2)] 51 (0,0)) (bP BKt1.out) hb);replace HB:=aS HB hb;clear hb;have hczt8:=cZ3 BKt1.out)))
        go_roundg k3
        case measure=>have:=HJy1.out;have:=HKw1.out;have:=HKu1.out;omega
        case rel=>exact⟨(wrap64 (x4_3+1)),rS,H',⟨by have:=HJy1.out;have:=HKw1.out;have:=HKu1.out;omega⟩,⟨(bX BKz1.out)⟩,⟨(hX HB.out)⟩⟩
       obtain⟨ji23,hji23⟩:∃ j_:Int,(wrap64 (((rd_T51 l0_0 x4_3).f1) - 1))=j_:=⟨_,rfl⟩
       replace H:(if 0≤(ji23) then (if (ji23)<(l0_1.length:Int) then ((XO.f k3 ((rd_T58 l0_1 (ji23)).f0) ((rd_T58 l0_1 (ji23)).f1) ((rd_T58 l0_1 (ji23)).f2) ((rd_T58 l0_1 (ji23)).f3.f0) ((rd_T58 l0_1 (ji23)).f3.f1) x4_3).bind fun bt109=>(if bt109.2.2.2=true then (if ((rd_T58 l0_1 (ji23)).f0)=((rd_T51 l0_0 x4_3).f2) then (Xm.l1 k3 (wrap64 (x4_3+1)) l0_0 l0_1) else (some false)) else (some false))) else (none)) else (none))=some r:=by first | (rw[hji23] at H;exact H) | (simp only[hji23] at H ⊢;exact H)
       (try rw[hji23] at A20)
       have hji23w:(IntKind.i64.wrap (((rd_T51 l0_0 x4_3).f1) - 1))=ji23:=(i64_w _).trans hji23
       replace H:=ifQ H;obtain⟨c24b0,H⟩:=H
       replace H:=ifQ H;obtain⟨c25b0,H⟩:=H
       replace H:=bE H;obtain⟨⟨t109,t110,t111,t112⟩,A26,H⟩:=H
       try dsimp only at H
       go_wp2_with (go_at_call 32;(with_reducible refine(Xad.calls _ _ _ _ _ _ A20.out).mono ?_);rintro e wt2 ⟨rfl,hb⟩;replace BKz1:=aF BKz1 hb;replace BKt1:=aM (blk_below (g:=gbt1) (o:=.cells #[.int .i64 ((rd_T51 l0_0 x4_3).f0),.int .i64 ((rd_T51 l0_0 x4_3).f1),.int .i64 ((rd_T51 l0_0 x4_3).f2)] 51 (0,0)) (bP BKt1.out) hb);replace HB:=aS HB hb;clear hb;have hczt8:=cZ3 BKt1.out;have hczt11:=cZ2 BKz1.out;have pt2:0≤((ji23):Int):=odA;have qt2:(ji23)<(l0_1.length:Int):=odA;obtain⟨adt2,At1,ct1,At2,ct2,et2,hxt4,hxt5,hxt6,hxt7,hxt8,hlt1,hit1,hlt2,hit2⟩:=at_T58 HR0_1.out (ji23) pt2 qt2;cases et2;replace hxt4:=bc HB.out hxt4;replace hxt5:=bc HB.out hxt5;replace hxt6:=bc HB.out hxt6;replace hxt7:=bc HB.out hxt7;replace hxt8:=bc HB.out hxt8;have HRt1:=aM hit1;have HCt1:=aM hlt1;clear hit1 hlt1;have HRt2:=aM hit2;have HCt2:=aM hlt2;clear hit2 hlt2;replace pt2:=eq_true pt2;replace qt2:=eq_true qt2;refine Stop.out ?_)
       refine⟨?_⟩
       cases t112
       case false =>
        rw[if_neg nft] at H
        obtain rfl:=sI H
        go_wp2_with (first | (go_at_call 25;(with_reducible refine(XO.calls _ _ _ _ _ _ _ _ _ _ _ _ _ _ _ _ (rW HRt1 HB HCt1) (rW HRt2 HB HCt2) A26.out).mono ?_);rintro e wt3 ⟨rfl,hb⟩;replace BKz1:=aB BKz1 hb;replace BKt1:=aB BKt1 hb;replace HB:=aS HB hb;clear hb) | ((with_reducible refine gate_dst (N:=6) rfl ?_);(try (refine gate_guard (by rfl) ?_;dsimp only));refine boxF 6 #[.int .i64 0,.int .i64 0,.int .i64 0] 63 ?_;intro gbt2 hg wt4 hbox hb;have BKt2:=aM (hbox);have GWt2:=aG hg HB;have GEt2:=aG hg HB;have NBt3:=aL hg BKz1;have NBt4:=aR hg BKz1;have NBt5:=aL hg BKt1;have NBt6:=aR hg BKt1;replace BKz1:=aB BKz1 hb;replace BKt1:=aB BKt1 hb;replace HB:=aS HB hb;clear hb hbox hg;have hnbt2:=NBt4.out;have hnct2:=NBt3.out;have hnbt3:=NBt6.out;have hnct3:=NBt5.out;have hczt13:=cZ3 BKt2.out))
        repeat (go_quiet (fail);try go_wp2_with (first | ((with_reducible refine gate_dst (N:=5) rfl ?_);(try (refine gate_guard (by rfl) ?_;dsimp only));refine boxF 5 #[.int .i64 0,.int .i64 0,.int .i64 0] 51 ?_;intro gbt1 hg wt1 hbox hb;have BKt1:=aM (hbox);have GWt1:=aG hg HB;have GEt1:=aG hg HB;have NBt1:=aL hg BKz1;have NBt2:=aR hg BKz1;replace BKz1:=aB BKz1 hb;replace HB:=aS HB hb;clear hb hbox hg;have hnbt1:=NBt2.out;have hnct1:=NBt1.out;have hczt3:=cZ3 BKt1.out;have hczt6:=cZ2 BKz1.out) | (go_at_call 32;(with_reducible refine(Xad.calls _ _ _ _ _ _ A20.out).mono ?_);rintro e wt2 ⟨rfl,hb⟩;replace BKz1:=aF BKz1 hb;replace BKt1:=aM (blk_below (g:=gbt1) (o:=.cells #[.int .i64 ((rd_T51 l0_0 x4_3).f0),.int .i64 ((rd_T51 l0_0 x4_3).f1),.int .i64 ((rd_T51 l0_0 x4_3).f2)] 51 (0,0)) (bP BKt1.out) hb);replace HB:=aS HB hb;clear hb;have hczt8:=cZ3 BKt1.out;have hczt11:=cZ2 BKz1.out;have pt2:0≤((ji23):Int):=odA;have qt2:(ji23)<(l0_1.length:Int):=odA;obtain⟨adt2,At1,ct1,At2,ct2,et2,hxt4,hxt5,hxt6,hxt7,hxt8,hlt1,hit1,hlt2,hit2⟩:=at_T58 HR0_1.out (ji23) pt2 qt2;cases et2;replace hxt4:=bc HB.out hxt4;replace hxt5:=bc HB.out hxt5;replace hxt6:=bc HB.out hxt6;replace hxt7:=bc HB.out hxt7;replace hxt8:=bc HB.out hxt8;have HRt1:=aM hit1;have HCt1:=aM hlt1;clear hit1 hlt1;have HRt2:=aM hit2;have HCt2:=aM hlt2;clear hit2 hlt2;replace pt2:=eq_true pt2;replace qt2:=eq_true qt2) | (go_at_call 25;(with_reducible refine(XO.calls _ _ _ _ _ _ _ _ _ _ _ _ _ _ _ _ (rW HRt1 HB HCt1) (rW HRt2 HB HCt2) A26.out).mono ?_);rintro e wt3 ⟨rfl,hb⟩;replace BKz1:=aB BKz1 hb;replace BKt1:=aB BKt1 hb;replace HB:=aS HB hb;clear hb) | ((with_reducible refine gate_dst (N:=6) rfl ?_);(try (refine gate_guard (by rfl) ?_;dsimp only));refine boxF 6 #[.int .i64 0,.int .i64 0,.int .i64 0] 63 ?_;intro gbt2 hg wt4 hbox hb;have BKt2:=aM (hbox);have GWt2:=aG hg HB;have GEt2:=aG hg HB;have NBt3:=aL hg BKz1;have NBt4:=aR hg BKz1;have NBt5:=aL hg BKt1;have NBt6:=aR hg BKt1;replace BKz1:=aB BKz1 hb;replace BKt1:=aB BKt1 hb;replace HB:=aS HB hb;clear hb hbox hg;have hnbt2:=NBt4.out;have hnct2:=NBt3.out;have hnbt3:=NBt6.out;have hnct3:=NBt5.out;have hczt13:=cZ3 BKt2.out)))
        go_ret
        exact⟨by first | rfl | (simp[errW_none,errW_some]<;>rfl) | (simp only[← hji23];first | rfl | (simp[errW_none,errW_some]<;>rfl)) | (simp[*,errW_none,errW_some]<;>rfl),(hX HB.out)⟩
       rw[if_pos rfl] at H
       go_wp2_with (first | (go_at_call 25;(with_reducible refine(XO.calls _ _ _ _ _ _ _ _ _ _ _ _ _ _ _ _ (rW HRt1 HB HCt1) (rW HRt2 HB HCt2) A26.out).mono ?_);rintro e wt3 ⟨rfl,hb⟩;replace BKz1:=aB BKz1 hb;replace BKt1:=aB BKt1 hb;replace HB:=aS HB hb;clear hb) | ((with_reducible refine gate_dst (N:=6) rfl ?_);(try (refine gate_guard (by rfl) ?_;dsimp only));refine boxF 6 #[.int .i64 0,.int .i64 0,.int .i64 0] 63 ?_;intro gbt2 hg wt4 hbox hb;have BKt2:=aM (hbox);have GWt2:=aG hg HB;have GEt2:=aG hg HB;have NBt3:=aL hg BKz1;have NBt4:=aR hg BKz1;have NBt5:=aL hg BKt1;have NBt6:=aR hg BKt1;replace BKz1:=aB BKz1 hb;replace BKt1:=aB BKt1 hb;replace HB:=aS HB hb;clear hb hbox hg;have hnbt2:=NBt4.out;have hnct2:=NBt3.out;have hnbt3:=NBt6.out;have hnct3:=NBt5.out;have hczt13:=cZ3 BKt2.out;have hczt16:=cZ2 BKz1.out;have hczt18:=cZ3 BKt1.out;have pt3:0≤((ji23):Int):=odA;have qt3:(ji23)<(l0_1.length:Int):=odA;obtain⟨adt3,At3,ct3,At4,ct4,et3,hxt9,hxt10,hxt11,hxt12,hxt13,hlt3,hit3,hlt4,hit4⟩:=at_T58 HR0_1.out (ji23) pt3 qt3;obtain rfl:adt2=adt3:=(by injection et3);have hnt1:adt2.block ≠ gbt2:=Nat.ne_of_lt (Nat.lt_of_lt_of_le (by have:=World.block_lt_of_cell? _ _ hxt9;first | rwa [add_block] at this | exact this) GWt2.out);have hnt2:adt2.block ≠ gbt2:=Nat.ne_of_lt (Nat.lt_of_lt_of_le (by have:=World.block_lt_of_cell? _ _ hxt9;first | rwa [add_block] at this | exact this) GWt2.out);have hnt3:adt2.block ≠ gbt2:=Nat.ne_of_lt (Nat.lt_of_lt_of_le (by have:=World.block_lt_of_cell? _ _ hxt9;first | rwa [add_block] at this | exact this) GWt2.out);replace hxt9:=bc HB.out hxt9;replace hxt10:=bc HB.out hxt10;replace hxt11:=bc HB.out hxt11;replace hxt12:=bc HB.out hxt12;replace hxt13:=bc HB.out hxt13;have HRt3:=aM hit3;have HCt3:=aM hlt3;clear hit3 hlt3;have HRt4:=aM hit4;have HCt4:=aM hlt4;clear hit4 hlt4;replace hxt9:=(cell_far (p:=⟨gbt2,0,none⟩) (by first | (rw[add_block];exact hnt1) | (show (Addr.add _ _).block ≠ _;rw[add_block];exact hnt1) | exact hnt1) (.int .i64 t109)).trans hxt9;replace hxt10:=(cell_far (p:=⟨gbt2,0,none⟩) (by first | (rw[add_block];exact hnt1) | (show (Addr.add _ _).block ≠ _;rw[add_block];exact hnt1) | exact hnt1) (.int .i64 t109)).trans hxt10;replace hxt11:=(cell_far (p:=⟨gbt2,0,none⟩) (by first | (rw[add_block];exact hnt1) | (show (Addr.add _ _).block ≠ _;rw[add_block];exact hnt1) | exact hnt1) (.int .i64 t109)).trans hxt11;replace hxt12:=(cell_far (p:=⟨gbt2,0,none⟩) (by first | (rw[add_block];exact hnt1) | (show (Addr.add _ _).block ≠ _;rw[add_block];exact hnt1) | exact hnt1) (.int .i64 t109)).trans hxt12;replace hxt13:=(cell_far (p:=⟨gbt2,0,none⟩) (by first | (rw[add_block];exact hnt1) | (show (Addr.add _ _).block ≠ _;rw[add_block];exact hnt1) | exact hnt1) (.int .i64 t109)).trans hxt13;replace hxt9:=(cell_far (p:=⟨gbt2,1,none⟩) (by first | (rw[add_block];exact hnt2) | (show (Addr.add _ _).block ≠ _;rw[add_block];exact hnt2) | exact hnt2) (.int .i64 t110)).trans hxt9;replace hxt10:=(cell_far (p:=⟨gbt2,1,none⟩) (by first | (rw[add_block];exact hnt2) | (show (Addr.add _ _).block ≠ _;rw[add_block];exact hnt2) | exact hnt2) (.int .i64 t110)).trans hxt10;replace hxt11:=(cell_far (p:=⟨gbt2,1,none⟩) (by first | (rw[add_block];exact hnt2) | (show (Addr.add _ _).block ≠ _;rw[add_block];exact hnt2) | exact hnt2) (.int .i64 t110)).trans hxt11;replace hxt12:=(cell_far (p:=⟨gbt2,1,none⟩) (by first | (rw[add_block];exact hnt2) | (show (Addr.add _ _).block ≠ _;rw[add_block];exact hnt2) | exact hnt2) (.int .i64 t110)).trans hxt12;replace hxt13:=(cell_far (p:=⟨gbt2,1,none⟩) (by first | (rw[add_block];exact hnt2) | (show (Addr.add _ _).block ≠ _;rw[add_block];exact hnt2) | exact hnt2) (.int .i64 t110)).trans hxt13;replace hxt9:=(cell_far (p:=⟨gbt2,2,none⟩) (by first | (rw[add_block];exact hnt3) | (show (Addr.add _ _).block ≠ _;rw[add_block];exact hnt3) | exact hnt3) (.int .i64 t111)).trans hxt9;replace hxt10:=(cell_far (p:=⟨gbt2,2,none⟩) (by first | (rw[add_block];exact hnt3) | (show (Addr.add _ _).block ≠ _;rw[add_block];exact hnt3) | exact hnt3) (.int .i64 t111)).trans hxt10;replace hxt11:=(cell_far (p:=⟨gbt2,2,none⟩) (by first | (rw[add_block];exact hnt3) | (show (Addr.add _ _).block ≠ _;rw[add_block];exact hnt3) | exact hnt3) (.int .i64 t111)).trans hxt11;replace hxt12:=(cell_far (p:=⟨gbt2,2,none⟩) (by first | (rw[add_block];exact hnt3) | (show (Addr.add _ _).block ≠ _;rw[add_block];exact hnt3) | exact hnt3) (.int .i64 t111)).trans hxt12;replace hxt13:=(cell_far (p:=⟨gbt2,2,none⟩) (by first | (rw[add_block];exact hnt3) | (show (Addr.add _ _).block ≠ _;rw[add_block];exact hnt3) | exact hnt3) (.int .i64 t111)).trans hxt13;(try have hy114_0:=fun(n_:Nat)=>(show (((((wt4.drewN n_).setCell ⟨gbt2,0,none⟩ (.int .i64 t109)).setCell ⟨gbt2,1,none⟩ (.int .i64 t110)).setCell ⟨gbt2,2,none⟩ (.int .i64 t111))).cell? _=some _ from hxt9));(try have hy114_1:=fun(n_:Nat)=>(show (((((wt4.drewN n_).setCell ⟨gbt2,0,none⟩ (.int .i64 t109)).setCell ⟨gbt2,1,none⟩ (.int .i64 t110)).setCell ⟨gbt2,2,none⟩ (.int .i64 t111))).cell? _=some _ from hxt10));(try have hy114_2:=fun(n_:Nat)=>(show (((((wt4.drewN n_).setCell ⟨gbt2,0,none⟩ (.int .i64 t109)).setCell ⟨gbt2,1,none⟩ (.int .i64 t110)).setCell ⟨gbt2,2,none⟩ (.int .i64 t111))).cell? _=some _ from hxt11));(try have hy114_3:=fun(n_:Nat)=>(show (((((wt4.drewN n_).setCell ⟨gbt2,0,none⟩ (.int .i64 t109)).setCell ⟨gbt2,1,none⟩ (.int .i64 t110)).setCell ⟨gbt2,2,none⟩ (.int .i64 t111))).cell? _=some _ from hxt12));(try have hy114_4:=fun(n_:Nat)=>(show (((((wt4.drewN n_).setCell ⟨gbt2,0,none⟩ (.int .i64 t109)).setCell ⟨gbt2,1,none⟩ (.int .i64 t110)).setCell ⟨gbt2,2,none⟩ (.int .i64 t111))).cell? _=some _ from hxt13));clear hnt1;clear hnt2;clear hnt3;replace pt3:=eq_true pt3;replace qt3:=eq_true qt3;refine Stop.out ?_))
       refine⟨?_⟩
       revert H;refine eN ?_ ?_<;>intro c28b0 c28b1 H
       ·obtain rfl:=sI H
        go_wp2
        repeat (go_quiet (fail);try go_wp2_with (first | ((with_reducible refine gate_dst (N:=5) rfl ?_);(try (refine gate_guard (by rfl) ?_;dsimp only));refine boxF 5 #[.int .i64 0,.int .i64 0,.int .i64 0] 51 ?_;intro gbt1 hg wt1 hbox hb;have BKt1:=aM (hbox);have GWt1:=aG hg HB;have GEt1:=aG hg HB;have NBt1:=aL hg BKz1;have NBt2:=aR hg BKz1;replace BKz1:=aB BKz1 hb;replace HB:=aS HB hb;clear hb hbox hg;have hnbt1:=NBt2.out;have hnct1:=NBt1.out;have hczt3:=cZ3 BKt1.out;have hczt6:=cZ2 BKz1.out) | (go_at_call 32;(with_reducible refine(Xad.calls _ _ _ _ _ _ A20.out).mono ?_);rintro e wt2 ⟨rfl,hb⟩;replace BKz1:=aF BKz1 hb;replace BKt1:=aM (blk_below (g:=gbt1) (o:=.cells #[.int .i64 ((rd_T51 l0_0 x4_3).f0),.int .i64 ((rd_T51 l0_0 x4_3).f1),.int .i64 ((rd_T51 l0_0 x4_3).f2)] 51 (0,0)) (bP BKt1.out) hb);replace HB:=aS HB hb;clear hb;have hczt8:=cZ3 BKt1.out;have hczt11:=cZ2 BKz1.out;have pt2:0≤((ji23):Int):=odA;have qt2:(ji23)<(l0_1.length:Int):=odA;obtain⟨adt2,At1,ct1,At2,ct2,et2,hxt4,hxt5,hxt6,hxt7,hxt8,hlt1,hit1,hlt2,hit2⟩:=at_T58 HR0_1.out (ji23) pt2 qt2;cases et2;replace hxt4:=bc HB.out hxt4;replace hxt5:=bc HB.out hxt5;replace hxt6:=bc HB.out hxt6;replace hxt7:=bc HB.out hxt7;replace hxt8:=bc HB.out hxt8;have HRt1:=aM hit1;have HCt1:=aM hlt1;clear hit1 hlt1;have HRt2:=aM hit2;have HCt2:=aM hlt2;clear hit2 hlt2;replace pt2:=eq_true pt2;replace qt2:=eq_true qt2) | (go_at_call 25;(with_reducible refine(XO.calls _ _ _ _ _ _ _ _ _ _ _ _ _ _ _ _ (rW HRt1 HB HCt1) (rW HRt2 HB HCt2) A26.out).mono ?_);rintro e wt3 ⟨rfl,hb⟩;replace BKz1:=aB BKz1 hb;replace BKt1:=aB BKt1 hb;replace HB:=aS HB hb;clear hb) | ((with_reducible refine gate_dst (N:=6) rfl ?_);(try (refine gate_guard (by rfl) ?_;dsimp only));refine boxF 6 #[.int .i64 0,.int .i64 0,.int .i64 0] 63 ?_;intro gbt2 hg wt4 hbox hb;have BKt2:=aM (hbox);have GWt2:=aG hg HB;have GEt2:=aG hg HB;have NBt3:=aL hg BKz1;have NBt4:=aR hg BKz1;have NBt5:=aL hg BKt1;have NBt6:=aR hg BKt1;replace BKz1:=aB BKz1 hb;replace BKt1:=aB BKt1 hb;replace HB:=aS HB hb;clear hb hbox hg;have hnbt2:=NBt4.out;have hnct2:=NBt3.out;have hnbt3:=NBt6.out;have hnct3:=NBt5.out;have hczt13:=cZ3 BKt2.out;have hczt16:=cZ2 BKz1.out;have hczt18:=cZ3 BKt1.out;have pt3:0≤((ji23):Int):=odA;have qt3:(ji23)<(l0_1.length:Int):=odA;obtain⟨adt3,At3,ct3,At4,ct4,et3,hxt9,hxt10,hxt11,hxt12,hxt13,hlt3,hit3,hlt4,hit4⟩:=at_T58 HR0_1.out (ji23) pt3 qt3;obtain rfl:adt2=adt3:=(by injection et3);have hnt1:adt2.block ≠ gbt2:=Nat.ne_of_lt (Nat.lt_of_lt_of_le (by have:=World.block_lt_of_cell? _ _ hxt9;first | rwa [add_block] at this | exact this) GWt2.out);have hnt2:adt2.block ≠ gbt2:=Nat.ne_of_lt (Nat.lt_of_lt_of_le (by have:=World.block_lt_of_cell? _ _ hxt9;first | rwa [add_block] at this | exact this) GWt2.out);have hnt3:adt2.block ≠ gbt2:=Nat.ne_of_lt (Nat.lt_of_lt_of_le (by have:=World.block_lt_of_cell? _ _ hxt9;first | rwa [add_block] at this | exact this) GWt2.out);replace hxt9:=bc HB.out hxt9;replace hxt10:=bc HB.out hxt10;replace hxt11:=bc HB.out hxt11;replace hxt12:=bc HB.out hxt12;replace hxt13:=bc HB.out hxt13;have HRt3:=aM hit3;have HCt3:=aM hlt3;clear hit3 hlt3;have HRt4:=aM hit4;have HCt4:=aM hlt4;clear hit4 hlt4;replace hxt9:=(cell_far (p:=⟨gbt2,0,none⟩) (by first | (rw[add_block];exact hnt1) | (show (Addr.add _ _).block ≠ _;rw[add_block];exact hnt1) | exact hnt1) (.int .i64 t109)).trans hxt9;replace hxt10:=(cell_far (p:=⟨gbt2,0,none⟩) (by first | (rw[add_block];exact hnt1) | (show (Addr.add _ _).block ≠ _;rw[add_block];exact hnt1) | exact hnt1) (.int .i64 t109)).trans hxt10;replace hxt11:=(cell_far (p:=⟨gbt2,0,none⟩) (by first | (rw[add_block];exact hnt1) | (show (Addr.add _ _).block ≠ _;rw[add_block];exact hnt1) | exact hnt1) (.int .i64 t109)).trans hxt11;replace hxt12:=(cell_far (p:=⟨gbt2,0,none⟩) (by first | (rw[add_block];exact hnt1) | (show (Addr.add _ _).block ≠ _;rw[add_block];exact hnt1) | exact hnt1) (.int .i64 t109)).trans hxt12;replace hxt13:=(cell_far (p:=⟨gbt2,0,none⟩) (by first | (rw[add_block];exact hnt1) | (show (Addr.add _ _).block ≠ _;rw[add_block];exact hnt1) | exact hnt1) (.int .i64 t109)).trans hxt13;replace hxt9:=(cell_far (p:=⟨gbt2,1,none⟩) (by first | (rw[add_block];exact hnt2) | (show (Addr.add _ _).block ≠ _;rw[add_block];exact hnt2) | exact hnt2) (.int .i64 t110)).trans hxt9;replace hxt10:=(cell_far (p:=⟨gbt2,1,none⟩) (by first | (rw[add_block];exact hnt2) | (show (Addr.add _ _).block ≠ _;rw[add_block];exact hnt2) | exact hnt2) (.int .i64 t110)).trans hxt10;replace hxt11:=(cell_far (p:=⟨gbt2,1,none⟩) (by first | (rw[add_block];exact hnt2) | (show (Addr.add _ _).block ≠ _;rw[add_block];exact hnt2) | exact hnt2) (.int .i64 t110)).trans hxt11;replace hxt12:=(cell_far (p:=⟨gbt2,1,none⟩) (by first | (rw[add_block];exact hnt2) | (show (Addr.add _ _).block ≠ _;rw[add_block];exact hnt2) | exact hnt2) (.int .i64 t110)).trans hxt12;replace hxt13:=(cell_far (p:=⟨gbt2,1,none⟩) (by first | (rw[add_block];exact hnt2) | (show (Addr.add _ _).block ≠ _;rw[add_block];exact hnt2) | exact hnt2) (.int .i64 t110)).trans hxt13;replace hxt9:=(cell_far (p:=⟨gbt2,2,none⟩) (by first | (rw[add_block];exact hnt3) | (show (Addr.add _ _).block ≠ _;rw[add_block];exact hnt3) | exact hnt3) (.int .i64 t111)).trans hxt9;replace hxt10:=(cell_far (p:=⟨gbt2,2,none⟩) (by first | (rw[add_block];exact hnt3) | (show (Addr.add _ _).block ≠ _;rw[add_block];exact hnt3) | exact hnt3) (.int .i64 t111)).trans hxt10;replace hxt11:=(cell_far (p:=⟨gbt2,2,none⟩) (by first | (rw[add_block];exact hnt3) | (show (Addr.add _ _).block ≠ _;rw[add_block];exact hnt3) | exact hnt3) (.int .i64 t111)).trans hxt11;replace hxt12:=(cell_far (p:=⟨gbt2,2,none⟩) (by first | (rw[add_block];exact hnt3) | (show (Addr.add _ _).block ≠ _;rw[add_block];exact hnt3) | exact hnt3) (.int .i64 t111)).trans hxt12;replace hxt13:=(cell_far (p:=⟨gbt2,2,none⟩) (by first | (rw[add_block];exact hnt3) | (show (Addr.add _ _).block ≠ _;rw[add_block];exact hnt3) | exact hnt3) (.int .i64 t111)).trans hxt13;(try have hy114_0:=fun(n_:Nat)=>(show (((((wt4.drewN n_).setCell ⟨gbt2,0,none⟩ (.int .i64 t109)).setCell ⟨gbt2,1,none⟩ (.int .i64 t110)).setCell ⟨gbt2,2,none⟩ (.int .i64 t111))).cell? _=some _ from hxt9));(try have hy114_1:=fun(n_:Nat)=>(show (((((wt4.drewN n_).setCell ⟨gbt2,0,none⟩ (.int .i64 t109)).setCell ⟨gbt2,1,none⟩ (.int .i64 t110)).setCell ⟨gbt2,2,none⟩ (.int .i64 t111))).cell? _=some _ from hxt10));(try have hy114_2:=fun(n_:Nat)=>(show (((((wt4.drewN n_).setCell ⟨gbt2,0,none⟩ (.int .i64 t109)).setCell ⟨gbt2,1,none⟩ (.int .i64 t110)).setCell ⟨gbt2,2,none⟩ (.int .i64 t111))).cell? _=some _ from hxt11));(try have hy114_3:=fun(n_:Nat)=>(show (((((wt4.drewN n_).setCell ⟨gbt2,0,none⟩ (.int .i64 t109)).setCell ⟨gbt2,1,none⟩ (.int .i64 t110)).setCell ⟨gbt2,2,none⟩ (.int .i64 t111))).cell? _=some _ from hxt12));(try have hy114_4:=fun(n_:Nat)=>(show (((((wt4.drewN n_).setCell ⟨gbt2,0,none⟩ (.int .i64 t109)).setCell ⟨gbt2,1,none⟩ (.int .i64 t110)).setCell ⟨gbt2,2,none⟩ (.int .i64 t111))).cell? _=some _ from hxt13));clear hnt1;clear hnt2;clear hnt3;replace pt3:=eq_true pt3;replace qt3:=eq_true qt3)))
        go_ret
        exact⟨by first | rfl | (simp[errW_none,errW_some]<;>rfl) | (simp only[← hji23];first | rfl | (simp[errW_none,errW_some]<;>rfl)) | (simp[*,errW_none,errW_some]<;>rfl),(hX HB.out)⟩
       have H':=aM H
       clear H
       go_wp2
       repeat (go_quiet (fail);try go_wp2_with (first | ((with_reducible refine gate_dst (N:=5) rfl ?_);(try (refine gate_guard (by rfl) ?_;dsimp only));refine boxF 5 #[.int .i64 0,.int .i64 0,.int .i64 0] 51 ?_;intro gbt1 hg wt1 hbox hb;have BKt1:=aM (hbox);have GWt1:=aG hg HB;have GEt1:=aG hg HB;have NBt1:=aL hg BKz1;have NBt2:=aR hg BKz1;replace BKz1:=aB BKz1 hb;replace HB:=aS HB hb;clear hb hbox hg;have hnbt1:=NBt2.out;have hnct1:=NBt1.out;have hczt3:=cZ3 BKt1.out;have hczt6:=cZ2 BKz1.out) | (go_at_call 32;(with_reducible refine(Xad.calls _ _ _ _ _ _ A20.out).mono ?_);rintro e wt2 ⟨rfl,hb⟩;replace BKz1:=aF BKz1 hb;replace BKt1:=aM (blk_below (g:=gbt1) (o:=.cells #[.int .i64 ((rd_T51 l0_0 x4_3).f0),.int .i64 ((rd_T51 l0_0 x4_3).f1),.int .i64 ((rd_T51 l0_0 x4_3).f2)] 51 (0,0)) (bP BKt1.out) hb);replace HB:=aS HB hb;clear hb;have hczt8:=cZ3 BKt1.out;have hczt11:=cZ2 BKz1.out;have pt2:0≤((ji23):Int):=odA;have qt2:(ji23)<(l0_1.length:Int):=odA;obtain⟨adt2,At1,ct1,At2,ct2,et2,hxt4,hxt5,hxt6,hxt7,hxt8,hlt1,hit1,hlt2,hit2⟩:=at_T58 HR0_1.out (ji23) pt2 qt2;cases et2;replace hxt4:=bc HB.out hxt4;replace hxt5:=bc HB.out hxt5;replace hxt6:=bc HB.out hxt6;replace hxt7:=bc HB.out hxt7;replace hxt8:=bc HB.out hxt8;have HRt1:=aM hit1;have HCt1:=aM hlt1;clear hit1 hlt1;have HRt2:=aM hit2;have HCt2:=aM hlt2;clear hit2 hlt2;replace pt2:=eq_true pt2;replace qt2:=eq_true qt2) | (go_at_call 25;(with_reducible refine(XO.calls _ _ _ _ _ _ _ _ _ _ _ _ _ _ _ _ (rW HRt1 HB HCt1) (rW HRt2 HB HCt2) A26.out).mono ?_);rintro e wt3 ⟨rfl,hb⟩;replace BKz1:=aB BKz1 hb;replace BKt1:=aB BKt1 hb;replace HB:=aS HB hb;clear hb) | ((with_reducible refine gate_dst (N:=6) rfl ?_);(try (refine gate_guard (by rfl) ?_;dsimp only));refine boxF 6 #[.int .i64 0,.int .i64 0,.int .i64 0] 63 ?_;intro gbt2 hg wt4 hbox hb;have BKt2:=aM (hbox);have GWt2:=aG hg HB;have GEt2:=aG hg HB;have NBt3:=aL hg BKz1;have NBt4:=aR hg BKz1;have NBt5:=aL hg BKt1;have NBt6:=aR hg BKt1;replace BKz1:=aB BKz1 hb;replace BKt1:=aB BKt1 hb;replace HB:=aS HB hb;clear hb hbox hg;have hnbt2:=NBt4.out;have hnct2:=NBt3.out;have hnbt3:=NBt6.out;have hnct3:=NBt5.out;have hczt13:=cZ3 BKt2.out;have hczt16:=cZ2 BKz1.out;have hczt18:=cZ3 BKt1.out;have pt3:0≤((ji23):Int):=odA;have qt3:(ji23)<(l0_1.length:Int):=odA;obtain⟨adt3,At3,ct3,At4,ct4,et3,hxt9,hxt10,hxt11,hxt12,hxt13,hlt3,hit3,hlt4,hit4⟩:=at_T58 HR0_1.out (ji23) pt3 qt3;obtain rfl:adt2=adt3:=(by injection et3);have hnt1:adt2.block ≠ gbt2:=Nat.ne_of_lt (Nat.lt_of_lt_of_le (by have:=World.block_lt_of_cell? _ _ hxt9;first | rwa [add_block] at this | exact this) GWt2.out);have hnt2:adt2.block ≠ gbt2:=Nat.ne_of_lt (Nat.lt_of_lt_of_le (by have:=World.block_lt_of_cell? _ _ hxt9;first | rwa [add_block] at this | exact this) GWt2.out);have hnt3:adt2.block ≠ gbt2:=Nat.ne_of_lt (Nat.lt_of_lt_of_le (by have:=World.block_lt_of_cell? _ _ hxt9;first | rwa [add_block] at this | exact this) GWt2.out);replace hxt9:=bc HB.out hxt9;replace hxt10:=bc HB.out hxt10;replace hxt11:=bc HB.out hxt11;replace hxt12:=bc HB.out hxt12;replace hxt13:=bc HB.out hxt13;have HRt3:=aM hit3;have HCt3:=aM hlt3;clear hit3 hlt3;have HRt4:=aM hit4;have HCt4:=aM hlt4;clear hit4 hlt4;replace hxt9:=(cell_far (p:=⟨gbt2,0,none⟩) (by first | (rw[add_block];exact hnt1) | (show (Addr.add _ _).block ≠ _;rw[add_block];exact hnt1) | exact hnt1) (.int .i64 t109)).trans hxt9;replace hxt10:=(cell_far (p:=⟨gbt2,0,none⟩) (by first | (rw[add_block];exact hnt1) | (show (Addr.add _ _).block ≠ _;rw[add_block];exact hnt1) | exact hnt1) (.int .i64 t109)).trans hxt10;replace hxt11:=(cell_far (p:=⟨gbt2,0,none⟩) (by first | (rw[add_block];exact hnt1) | (show (Addr.add _ _).block ≠ _;rw[add_block];exact hnt1) | exact hnt1) (.int .i64 t109)).trans hxt11;replace hxt12:=(cell_far (p:=⟨gbt2,0,none⟩) (by first | (rw[add_block];exact hnt1) | (show (Addr.add _ _).block ≠ _;rw[add_block];exact hnt1) | exact hnt1) (.int .i64 t109)).trans hxt12;replace hxt13:=(cell_far (p:=⟨gbt2,0,none⟩) (by first | (rw[add_block];exact hnt1) | (show (Addr.add _ _).block ≠ _;rw[add_block];exact hnt1) | exact hnt1) (.int .i64 t109)).trans hxt13;replace hxt9:=(cell_far (p:=⟨gbt2,1,none⟩) (by first | (rw[add_block];exact hnt2) | (show (Addr.add _ _).block ≠ _;rw[add_block];exact hnt2) | exact hnt2) (.int .i64 t110)).trans hxt9;replace hxt10:=(cell_far (p:=⟨gbt2,1,none⟩) (by first | (rw[add_block];exact hnt2) | (show (Addr.add _ _).block ≠ _;rw[add_block];exact hnt2) | exact hnt2) (.int .i64 t110)).trans hxt10;replace hxt11:=(cell_far (p:=⟨gbt2,1,none⟩) (by first | (rw[add_block];exact hnt2) | (show (Addr.add _ _).block ≠ _;rw[add_block];exact hnt2) | exact hnt2) (.int .i64 t110)).trans hxt11;replace hxt12:=(cell_far (p:=⟨gbt2,1,none⟩) (by first | (rw[add_block];exact hnt2) | (show (Addr.add _ _).block ≠ _;rw[add_block];exact hnt2) | exact hnt2) (.int .i64 t110)).trans hxt12;replace hxt13:=(cell_far (p:=⟨gbt2,1,none⟩) (by first | (rw[add_block];exact hnt2) | (show (Addr.add _ _).block ≠ _;rw[add_block];exact hnt2) | exact hnt2) (.int .i64 t110)).trans hxt13;replace hxt9:=(cell_far (p:=⟨gbt2,2,none⟩) (by first | (rw[add_block];exact hnt3) | (show (Addr.add _ _).block ≠ _;rw[add_block];exact hnt3) | exact hnt3) (.int .i64 t111)).trans hxt9;replace hxt10:=(cell_far (p:=⟨gbt2,2,none⟩) (by first | (rw[add_block];exact hnt3) | (show (Addr.add _ _).block ≠ _;rw[add_block];exact hnt3) | exact hnt3) (.int .i64 t111)).trans hxt10;replace hxt11:=(cell_far (p:=⟨gbt2,2,none⟩) (by first | (rw[add_block];exact hnt3) | (show (Addr.add _ _).block ≠ _;rw[add_block];exact hnt3) | exact hnt3) (.int .i64 t111)).trans hxt11;replace hxt12:=(cell_far (p:=⟨gbt2,2,none⟩) (by first | (rw[add_block];exact hnt3) | (show (Addr.add _ _).block ≠ _;rw[add_block];exact hnt3) | exact hnt3) (.int .i64 t111)).trans hxt12;replace hxt13:=(cell_far (p:=⟨gbt2,2,none⟩) (by first | (rw[add_block];exact hnt3) | (show (Addr.add _ _).block ≠ _;rw[add_block];exact hnt3) | exact hnt3) (.int .i64 t111)).trans hxt13;(try have hy114_0:=fun(n_:Nat)=>(show (((((wt4.drewN n_).setCell ⟨gbt2,0,none⟩ (.int .i64 t109)).setCell ⟨gbt2,1,none⟩ (.int .i64 t110)).setCell ⟨gbt2,2,none⟩ (.int .i64 t111))).cell? _=some _ from hxt9));(try have hy114_1:=fun(n_:Nat)=>(show (((((wt4.drewN n_).setCell ⟨gbt2,0,none⟩ (.int .i64 t109)).setCell ⟨gbt2,1,none⟩ (.int .i64 t110)).setCell ⟨gbt2,2,none⟩ (.int .i64 t111))).cell? _=some _ from hxt10));(try have hy114_2:=fun(n_:Nat)=>(show (((((wt4.drewN n_).setCell ⟨gbt2,0,none⟩ (.int .i64 t109)).setCell ⟨gbt2,1,none⟩ (.int .i64 t110)).setCell ⟨gbt2,2,none⟩ (.int .i64 t111))).cell? _=some _ from hxt11));(try have hy114_3:=fun(n_:Nat)=>(show (((((wt4.drewN n_).setCell ⟨gbt2,0,none⟩ (.int .i64 t109)).setCell ⟨gbt2,1,none⟩ (.int .i64 t110)).setCell ⟨gbt2,2,none⟩ (.int .i64 t111))).cell? _=some _ from hxt12));(try have hy114_4:=fun(n_:Nat)=>(show (((((wt4.drewN n_).setCell ⟨gbt2,0,none⟩ (.int .i64 t109)).setCell ⟨gbt2,1,none⟩ (.int .i64 t110)).setCell ⟨gbt2,2,none⟩ (.int .i64 t111))).cell? _=some _ from hxt13));clear hnt1;clear hnt2;clear hnt3;replace pt3:=eq_true pt3;replace qt3:=eq_true qt3)))
       go_roundg k3
       case measure=>have:=HJy1.out;have:=HKw1.out;have:=HKu1.out;omega
       case rel=>exact⟨(wrap64 (x4_3+1)),rS,H',⟨by have:=HJy1.out;have:=HKw1.out;have:=HKu1.out;omega⟩,⟨(bF BKz1.out)⟩,⟨(hX HB.out)⟩⟩
end Go.Proofs.YthejoblnfpaojaaGreat.P
