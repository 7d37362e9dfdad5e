/- A part of the proof of the law FnStarts: texts of this seat, merged (words, printed functions of the program, plain lemmas). Conditions: none of its own. -/
import Derived.Test.YthejoblnfpaojaaGreatPkFnStarts29
set_option linter.unusedSimpArgs false
set_option linter.unusedVariables false
set_option maxHeartbeats 8000000
set_option maxRecDepth 100000
namespace Go.Proofs.YthejoblnfpaojaaGreat.P
open Go.Proofs.YthejoblnfpaojaaGreatZ Go.RowKit Go.Proofs.YthejoblnfpaojaaGreatW.PrintWords Go.Proofs.YthejoblnfpaojaaGreatW.PrintLast Go.Proofs.YthejoblnfpaojaaGreatW.PrintMore
attribute [local go_sem] max2_int min2_int max_two min_two max_three min_three max_four min_four   -- for this text's walks alone
mutual
def Xy.j0:Nat→Bool→List (S51)→List (S58)→Option (Bool)
 | 0,_,_,_=>none
 | k+1,x23,x102000,x102001=>if x23=true then (some false) else (Xy.l0 k x102000 (x102000.length:Int) 0 x102000 x102001)
def Xy.l0:Nat→List (S51)→Int→Int→List (S51)→List (S58)→Option (Bool)
 | 0,_,_,_,_,_=>none
 | k+1,x25,x26,x27,x102000,x102001=>if x27<x26 then (if 0≤x27 then (if x27<(x25.length:Int) then ((Xay.f ((rd_T51 x25 x27).f0) ((rd_T51 x25 x27).f1) ((rd_T51 x25 x27).f2) (x102001.length:Int)).bind fun t106=>(if t106=true then (if ((rd_T51 x25 x27).f1)=0 then (Xy.l0 k x25 x26 (wrap64 (x27+1)) x102000 x102001) else (if 0≤(wrap64 (((rd_T51 x25 x27).f1) - 1)) then (if (wrap64 (((rd_T51 x25 x27).f1) - 1))<(x102001.length:Int) then ((XN.f k ((rd_T58 x102001 (wrap64 (((rd_T51 x25 x27).f1) - 1))).f0) ((rd_T58 x102001 (wrap64 (((rd_T51 x25 x27).f1) - 1))).f1) ((rd_T58 x102001 (wrap64 (((rd_T51 x25 x27).f1) - 1))).f2) ((rd_T58 x102001 (wrap64 (((rd_T51 x25 x27).f1) - 1))).f3.f0) ((rd_T58 x102001 (wrap64 (((rd_T51 x25 x27).f1) - 1))).f3.f1) x27).bind fun bt109=>(if bt109.2.2.2=true then (if ((rd_T58 x102001 (wrap64 (((rd_T51 x25 x27).f1) - 1))).f0)=((rd_T51 x25 x27).f2) then (Xy.l0 k x25 x26 (wrap64 (x27+1)) x102000 x102001) else (some false)) else (some false))) else (none)) else (none))) else (some false))) else (none)) else (none)) else (some true)
end
def Xy.f (k:Nat) (l0_0:List (S51)) (l0_1:List (S58)):Option (Bool):=if (l0_0.length:Int)=20 then ((Xe.f (l0_1.length:Int) 1 4).bind fun t102=>(if t102=true then ((Xai.f k l0_1).bind fun t103=>(Xy.j0 k t103 l0_0 l0_1)) else (Xy.j0 k true l0_0 l0_1))) else (Xy.j0 k true l0_0 l0_1)
theorem Xy.calls (k:Nat) (A0_0:Option Addr) (c0_0:Nat) (l0_0:List (S51)) (A0_1:Option Addr) (c0_1:Nat) (l0_1:List (S58)) (r:Bool) (w:World) (h0_0:Rw k51 w A0_0 c0_0 l0_0) (h0_1:Rw k58 w A0_1 c0_1 l0_1) (H:Xy.f k l0_0 l0_1=some r) :
  Calls Tryz.prog 29 #[.agg #[.slice A0_0 l0_0.length c0_0,.slice A0_1 l0_1.length c0_1]] w fun e w'=>e = .returned (.bool r)∧Below w.heap.size w w':=by
 have hu33:=Tryz.underlying33
 have hu51:=Tryz.underlying51
 have hu58:=Tryz.underlying58
 have hu63:=Tryz.underlying63
 obtain⟨HR0_0,HC0_0⟩:=h0_0
 obtain⟨HR0_1,HC0_1⟩:=h0_1
 have HB:=aM (Below.refl w.heap.size w)
 unfold Xy.f at H
 have HC2:=aM H
 clear H
 go_enter Tryz.func29,Tryz.ntmps29
 go_upto_region 1 with((with_reducible refine gate_dst (N:=1) rfl ?_);(try (refine gate_guard (by rfl) ?_;dsimp only));refine boxF 1 #[.slice A0_0 l0_0.length c0_0,.slice A0_1 l0_1.length c0_1] 33 ?_;intro gbz1 hg wz1 hbox hb;have BKz1:=aM (hbox);have GWz1:=aG hg HB;replace HB:=aS HB hb;clear hb hbox hg)
 (try simp only[Act.put,List.setIfInBounds_toArray,List.set_cons_zero,List.set_cons_succ])
 go_cut [23] (fun vz1 wc=>∃ (kq:Nat) (x23_1:Bool),vz1 = .bool x23_1∧Aside0 (Xy.j0 kq x23_1 l0_0 l0_1=some r)∧Aside0 (kq≤k)∧Aside0 (wc.heap[gbz1]? = some (.cells #[(.slice A0_0 l0_0.length c0_0),(.slice A0_1 l0_1.length c0_1)] 33 (0,0)))∧Aside0 (Below w.heap.size w wc))
 case first =>
  have H:=HC2.out
  clear HC2
  revert H;refine eN ?_ ?_<;>intro c4b0 c4b1 H
  ·(first | rw[c4b0] | (simp only[i64_w,i32_w];rw[c4b0]) | skip)
   have H':=aM H
   clear H
   have hczy1:=cZ2 BKz1.out
   go_wp2
   go_meet
   case rel=>exact⟨_,(true),rS,H',⟨by first | omega | exact Nat.le_refl _⟩,⟨(bX BKz1.out)⟩,⟨(hX HB.out)⟩⟩
  (first | rw[c4b0] | (simp only[i64_w,i32_w];rw[c4b0]) | skip)
  replace H:=bE H;obtain⟨t102,A5,H⟩:=H
  cases t102
  case false =>
   rw[if_neg nft] at H
   have H':=aM H
   clear H
   have hczy1:=cZ2 BKz1.out
   go_wp2_with (go_at_call 88;(with_reducible refine(Xe.calls _ _ _ _ _ A5.out).mono ?_);rintro e w' ⟨rfl,⟨nd,rfl⟩⟩)
   go_meet
   case rel=>exact⟨_,(true),rS,H',⟨by first | omega | exact Nat.le_refl _⟩,⟨(bX BKz1.out)⟩,⟨(hX HB.out)⟩⟩
  rw[if_pos rfl] at H
  replace H:=bE H;obtain⟨t103,A7,H⟩:=H
  have H':=aM H
  clear H
  have hczy1:=cZ2 BKz1.out
  go_wp2_with (first | (go_at_call 88;(with_reducible refine(Xe.calls _ _ _ _ _ A5.out).mono ?_);rintro e w' ⟨rfl,⟨nd,rfl⟩⟩) | (go_at_call 100;(with_reducible refine(Xai.calls _ _ _ _ _ _ (rW HR0_1 HB HC0_1) A7.out).mono ?_);rintro e wy1 ⟨rfl,hb⟩;replace BKz1:=aB BKz1 hb;replace HB:=aS HB hb;clear hb))
  go_meet
  case rel=>exact⟨_,(t103),rS,H',⟨by first | omega | exact Nat.le_refl _⟩,⟨(bX BKz1.out)⟩,⟨(hX HB.out)⟩⟩
 case rest =>
  clear HC2
  obtain⟨kq,x23_1,rfl,HA,HJy1,BKz1,HB⟩:=hcut
  cases kq with
  | zero=>exact absurd HA.out (by simp[Xy.j0])
  | succ kj1 =>
   have H:=HA.out
   clear HA
   simp only[Xy.j0] at H
   cases x23_1
   case true =>
    rw[if_pos rfl] at H
    exact fR
   rw[if_neg nft] at H
   have H':=aM H
   clear H
   have hczx1:=cZ2 BKz1.out
   go_wp2
   go_loopg [27] kj1 (fun kq v27 w'=>∃ (x27_2:Int),v27 = .int .i64 x27_2∧Aside0 (Xy.l0 kq l0_0 (l0_0.length:Int) x27_2 l0_0 l0_1=some r)∧Aside0 (kq≤kj1)∧Aside0 (w'.heap[gbz1]? = some (.cells #[(.slice A0_0 l0_0.length c0_0),(.slice A0_1 l0_1.length c0_1)] 33 (0,0)))∧Aside0 (Below w.heap.size w w'))
   case atStart=>exact⟨(0),rS,H',⟨Nat.le_refl _⟩,⟨(bX BKz1.out)⟩,⟨(hX HB.out)⟩⟩
   case round =>
    clear H'
    try clear hczx1
    obtain⟨x27_2,rfl,HA,HKw1,BKz1,HB⟩:=hrel
    cases gk with
    | zero=>exact absurd HA.out (by simp[Xy.l0])
    | succ k2 =>
     have H:=HA.out
     clear HA
     simp only[Xy.l0] at H
     revert H;refine iN ?_ ?_<;>intro c14b0 H
     ·obtain rfl:=sI H
      exact fS
     replace H:=ifQ H;obtain⟨c15b0,H⟩:=H
     replace H:=ifQ H;obtain⟨c16b0,H⟩:=H
     replace H:=bE H;obtain⟨t106,A17,H⟩:=H
     obtain⟨adv1,ev1,pv1,qv1,hxv1⟩:=at_T51c HR0_0 HB x27_2
     cases ev1
     go_wp2_with ((with_reducible refine gate_dst (N:=4) rfl ?_);(try (refine gate_guard (by rfl) ?_;dsimp only));refine boxF 4 #[.int .i64 0,.int .i64 0,.int .i64 0] 51 ?_;intro gbv1 hg wv1 hbox hb;have BKv1:=aM (hbox);have GWv1:=aG hg HB;have NBv1:=aL hg BKz1;have NBv2:=aR hg BKz1;replace BKz1:=aB BKz1 hb;replace HB:=aS HB hb;clear hb hbox hg;have hnbv1:=nB NBv2 NBv1;have hczv1:=cZ3 BKv1.out;have hczv4:=cZ2 BKz1.out;refine Stop.out ?_)
     refine⟨?_⟩
     cases t106
     case false =>
      rw[if_neg nft] at H
      obtain rfl:=sI H
      go_wp2_with (refine gB 31 36 Tryz.func31 (Xay.calls _ _ _ _ _ _ A17.out) ?_;intro wv2 hb;replace BKz1:=aF BKz1 hb;replace BKv1:=aM (blk_below (g:=gbv1) (o:=.cells #[.int .i64 ((rd_T51 l0_0 x27_2).f0),.int .i64 ((rd_T51 l0_0 x27_2).f1),.int .i64 ((rd_T51 l0_0 x27_2).f2)] 51 (0,0)) (bP BKv1.out) hb);replace HB:=aS HB hb;clear hb)
      go_ret
      exact⟨rE,(hX HB.out)⟩
     rw[if_pos rfl] at H
     revert H;refine eP ?_ ?_<;>intro c19b0 c19b1 H
     ·have H':=aM H
      clear H
      go_wp2_with (refine gB 31 36 Tryz.func31 (Xay.calls _ _ _ _ _ _ A17.out) ?_;intro wv2 hb;replace BKz1:=aF BKz1 hb;replace BKv1:=aM (blk_below (g:=gbv1) (o:=.cells #[.int .i64 ((rd_T51 l0_0 x27_2).f0),.int .i64 ((rd_T51 l0_0 x27_2).f1),.int .i64 ((rd_T51 l0_0 x27_2).f2)] 51 (0,0)) (bP BKv1.out) hb);replace HB:=aS HB hb;clear hb;have hczv6:=cZ3 BKv1.out)
      go_roundg k2
      case measure=>have:=HJy1.out;have:=HKw1.out;omega
      case rel=>exact⟨(wrap64 (x27_2+1)),rS,H',⟨by have:=HJy1.out;have:=HKw1.out;omega⟩,⟨(bX BKz1.out)⟩,⟨(hX HB.out)⟩⟩
     obtain⟨ji26,hji26⟩:∃ j_:Int,(wrap64 (((rd_T51 l0_0 x27_2).f1) - 1))=j_:=⟨_,rfl⟩
     replace H:(if 0≤(ji26) then (if (ji26)<(l0_1.length:Int) then ((XN.f k2 ((rd_T58 l0_1 (ji26)).f0) ((rd_T58 l0_1 (ji26)).f1) ((rd_T58 l0_1 (ji26)).f2) ((rd_T58 l0_1 (ji26)).f3.f0) ((rd_T58 l0_1 (ji26)).f3.f1) x27_2).bind fun bt109=>(if bt109.2.2.2=true then (if ((rd_T58 l0_1 (ji26)).f0)=((rd_T51 l0_0 x27_2).f2) then (Xy.l0 k2 l0_0 (l0_0.length:Int) (wrap64 (x27_2+1)) l0_0 l0_1) else (some false)) else (some false))) else (none)) else (none))=some r:=by first | (rw[hji26] at H;exact H) | (simp only[hji26] at H ⊢;exact H)
     (try rw[hji26] at A17)
     have hji26w:(IntKind.i64.wrap (((rd_T51 l0_0 x27_2).f1) - 1))=ji26:=(i64_w _).trans hji26
     replace H:=ifQ H;obtain⟨c27b0,H⟩:=H
     replace H:=ifQ H;obtain⟨c28b0,H⟩:=H
     replace H:=bE H;obtain⟨⟨t109,t110,t111,t112⟩,A29,H⟩:=H
     try dsimp only at H
     go_wp2_with (first | (refine gB 31 36 Tryz.func31 (Xay.calls _ _ _ _ _ _ A17.out) ?_;intro wv2 hb;replace BKz1:=aF BKz1 hb;replace BKv1:=aM (blk_below (g:=gbv1) (o:=.cells #[.int .i64 ((rd_T51 l0_0 x27_2).f0),.int .i64 ((rd_T51 l0_0 x27_2).f1),.int .i64 ((rd_T51 l0_0 x27_2).f2)] 51 (0,0)) (bP BKv1.out) hb);replace HB:=aS HB hb;clear hb;have hczv6:=cZ3 BKv1.out;have hczv9:=cZ2 BKz1.out;have pv2:0≤((ji26):Int):=odA;have qv2:(ji26)<(l0_1.length:Int):=odA;obtain⟨adv2,Av1,cv1,Av2,cv2,ev2,hxv4,hxv5,hxv6,hxv7,hxv8,hlv1,hiv1,hlv2,hiv2⟩:=at_T58 HR0_1.out (ji26) pv2 qv2;cases ev2;replace hxv4:=bc HB.out hxv4;replace hxv5:=bc HB.out hxv5;replace hxv6:=bc HB.out hxv6;replace hxv7:=bc HB.out hxv7;replace hxv8:=bc HB.out hxv8;have HRv1:=aM hiv1;have HCv1:=aM hlv1;clear hiv1 hlv1;have HRv2:=aM hiv2;have HCv2:=aM hlv2;clear hiv2 hlv2;replace pv2:=eq_true pv2;replace qv2:=eq_true qv2) | ((with_reducible refine gate_dst (N:=5) rfl ?_);(try (refine gate_guard (by rfl) ?_;dsimp only));refine boxF 5 #[.int .i64 0,.int .i64 0,.slice none 0 0,.int .i64 0,.slice none 0 0] 58 ?_;intro gbv2 hg wv3 hbox hb;have BKv2:=aM (hbox);have GWv2:=aG hg HB;have NBv3:=aL hg BKz1;have NBv4:=aR hg BKz1;have NBv5:=aL hg BKv1;have NBv6:=aR hg BKv1;replace BKz1:=aB BKz1 hb;replace BKv1:=aB BKv1 hb;replace HB:=aS HB hb;clear hb hbox hg;have hnbv2:=nB NBv4 NBv3;have hnbv3:=nB NBv6 NBv5;have hczv11:=cZ5 BKv2.out;refine Stop.out ?_))
     refine⟨?_⟩
     cases t112
     case false =>
      rw[if_neg nft] at H
      obtain rfl:=sI H
      go_wp2_with (first | ((with_reducible refine gate_callee (f:=24) rfl ?_);refine goesL_ (some 51) rfl rfl Tryz.func24 (by kernel_rfl) rfl #[.agg #[.int .i64 ((rd_T58 l0_1 (ji26)).f0),.int .i64 ((rd_T58 l0_1 (ji26)).f1),.slice Av1 ((rd_T58 l0_1 (ji26)).f2).length cv1,.int .i64 ((rd_T58 l0_1 (ji26)).f3.f0),.slice Av2 ((rd_T58 l0_1 (ji26)).f3.f1).length cv2],.int .i64 x27_2] rfl (by (try simp only[List.map_toArray,List.map_cons,List.map_nil]);first | done | (simp only[hji26];rfl) | rfl | (simp only[List.length_drop,List.length_take];rfl)) ?_;(with_reducible refine(XN.calls k2 ((rd_T58 l0_1 (ji26)).f0) ((rd_T58 l0_1 (ji26)).f1) _ _ ((rd_T58 l0_1 (ji26)).f2) ((rd_T58 l0_1 (ji26)).f3.f0) _ _ ((rd_T58 l0_1 (ji26)).f3.f1) x27_2 t109 t110 t111 false _ (rW HRv1 HB HCv1) (rW HRv2 HB HCv2) A29.out).mono ?_);rintro e wv4 ⟨rfl,hb⟩;refine⟨_,rfl,?_⟩;replace BKz1:=aF BKz1 hb;replace BKv1:=aF BKv1 hb;replace BKv2:=aM (blk_below (g:=gbv2) (o:=.cells #[.int .i64 ((rd_T58 l0_1 (ji26)).f0),.int .i64 ((rd_T58 l0_1 (ji26)).f1),.slice Av1 ((rd_T58 l0_1 (ji26)).f2).length cv1,.int .i64 ((rd_T58 l0_1 (ji26)).f3.f0),.slice Av2 ((rd_T58 l0_1 (ji26)).f3.f1).length cv2] 58 (0,0)) (bP BKv2.out) hb);replace HB:=aS HB hb;clear hb) | ((with_reducible refine gate_dst (N:=6) rfl ?_);(try (refine gate_guard (by rfl) ?_;dsimp only));refine boxF 6 #[.int .i64 0,.int .i64 0,.int .i64 0] 63 ?_;intro gbv3 hg wv5 hbox hb;have BKv3:=aM (hbox);have GWv3:=aG hg HB;have GEv3:=aG hg HB;have NBv7:=aL hg BKz1;have NBv8:=aR hg BKz1;have NBv9:=aL hg BKv1;have NBv10:=aR hg BKv1;have NBv11:=aM ((by rw[hg];exact Nat.ne_of_lt (blk_lt (g:=gbv2) (o:=.cells #[.int .i64 ((rd_T58 l0_1 (ji26)).f0),.int .i64 ((rd_T58 l0_1 (ji26)).f1),.slice Av1 ((rd_T58 l0_1 (ji26)).f2).length cv1,.int .i64 ((rd_T58 l0_1 (ji26)).f3.f0),.slice Av2 ((rd_T58 l0_1 (ji26)).f3.f1).length cv2] 58 (0,0)) (bX BKv2.out)):gbv2 ≠ gbv3));have NBv12:=aM ((by rw[hg];exact Nat.ne_of_gt (blk_lt (g:=gbv2) (o:=.cells #[.int .i64 ((rd_T58 l0_1 (ji26)).f0),.int .i64 ((rd_T58 l0_1 (ji26)).f1),.slice Av1 ((rd_T58 l0_1 (ji26)).f2).length cv1,.int .i64 ((rd_T58 l0_1 (ji26)).f3.f0),.slice Av2 ((rd_T58 l0_1 (ji26)).f3.f1).length cv2] 58 (0,0)) (bX BKv2.out)):gbv3 ≠ gbv2));replace BKz1:=aB BKz1 hb;replace BKv1:=aB BKv1 hb;replace BKv2:=aM (blk_below (g:=gbv2) (o:=.cells #[.int .i64 ((rd_T58 l0_1 (ji26)).f0),.int .i64 ((rd_T58 l0_1 (ji26)).f1),.slice Av1 ((rd_T58 l0_1 (ji26)).f2).length cv1,.int .i64 ((rd_T58 l0_1 (ji26)).f3.f0),.slice Av2 ((rd_T58 l0_1 (ji26)).f3.f1).length cv2] 58 (0,0)) (bX BKv2.out) hb);replace HB:=aS HB hb;clear hb hbox hg;have hnbv4:=NBv8.out;have hncv4:=NBv7.out;have hnbv5:=NBv10.out;have hncv5:=NBv9.out;have hnbv6:=NBv12.out;have hncv6:=NBv11.out;have hczv16:=cZ3 BKv3.out))
      go_ret
      exact⟨by first | rfl | (simp[errW_none,errW_some]<;>rfl) | (simp only[← hji26];first | rfl | (simp[errW_none,errW_some]<;>rfl)) | (simp[*,errW_none,errW_some]<;>rfl),(hX HB.out)⟩
     rw[if_pos rfl] at H
     go_wp2_with (first | ((with_reducible refine gate_callee (f:=24) rfl ?_);refine goesL_ (some 51) rfl rfl Tryz.func24 (by kernel_rfl) rfl #[.agg #[.int .i64 ((rd_T58 l0_1 (ji26)).f0),.int .i64 ((rd_T58 l0_1 (ji26)).f1),.slice Av1 ((rd_T58 l0_1 (ji26)).f2).length cv1,.int .i64 ((rd_T58 l0_1 (ji26)).f3.f0),.slice Av2 ((rd_T58 l0_1 (ji26)).f3.f1).length cv2],.int .i64 x27_2] rfl (by (try simp only[List.map_toArray,List.map_cons,List.map_nil]);first | done | (simp only[hji26];rfl) | rfl | (simp only[List.length_drop,List.length_take];rfl)) ?_;(with_reducible refine(XN.calls k2 ((rd_T58 l0_1 (ji26)).f0) ((rd_T58 l0_1 (ji26)).f1) _ _ ((rd_T58 l0_1 (ji26)).f2) ((rd_T58 l0_1 (ji26)).f3.f0) _ _ ((rd_T58 l0_1 (ji26)).f3.f1) x27_2 t109 t110 t111 true _ (rW HRv1 HB HCv1) (rW HRv2 HB HCv2) A29.out).mono ?_);rintro e wv4 ⟨rfl,hb⟩;refine⟨_,rfl,?_⟩;replace BKz1:=aF BKz1 hb;replace BKv1:=aF BKv1 hb;replace BKv2:=aM (blk_below (g:=gbv2) (o:=.cells #[.int .i64 ((rd_T58 l0_1 (ji26)).f0),.int .i64 ((rd_T58 l0_1 (ji26)).f1),.slice Av1 ((rd_T58 l0_1 (ji26)).f2).length cv1,.int .i64 ((rd_T58 l0_1 (ji26)).f3.f0),.slice Av2 ((rd_T58 l0_1 (ji26)).f3.f1).length cv2] 58 (0,0)) (bP BKv2.out) hb);replace HB:=aS HB hb;clear hb) | ((with_reducible refine gate_dst (N:=6) rfl ?_);(try (refine gate_guard (by rfl) ?_;dsimp only));refine boxF 6 #[.int .i64 0,.int .i64 0,.int .i64 0] 63 ?_;intro gbv3 hg wv5 hbox hb;have BKv3:=aM (hbox);have GWv3:=aG hg HB;have GEv3:=aG hg HB;have NBv7:=aL hg BKz1;have NBv8:=aR hg BKz1;have NBv9:=aL hg BKv1;have NBv10:=aR hg BKv1;have NBv11:=aM ((by rw[hg];exact Nat.ne_of_lt (blk_lt (g:=gbv2) (o:=.cells #[.int .i64 ((rd_T58 l0_1 (ji26)).f0),.int .i64 ((rd_T58 l0_1 (ji26)).f1),.slice Av1 ((rd_T58 l0_1 (ji26)).f2).length cv1,.int .i64 ((rd_T58 l0_1 (ji26)).f3.f0),.slice Av2 ((rd_T58 l0_1 (ji26)).f3.f1).length cv2] 58 (0,0)) (bX BKv2.out)):gbv2 ≠ gbv3));have NBv12:=aM ((by rw[hg];exact Nat.ne_of_gt (blk_lt (g:=gbv2) (o:=.cells #[.int .i64 ((rd_T58 l0_1 (ji26)).f0),.int .i64 ((rd_T58 l0_1 (ji26)).f1),.slice Av1 ((rd_T58 l0_1 (ji26)).f2).length cv1,.int .i64 ((rd_T58 l0_1 (ji26)).f3.f0),.slice Av2 ((rd_T58 l0_1 (ji26)).f3.f1).length cv2] 58 (0,0)) (bX BKv2.out)):gbv3 ≠ gbv2));replace BKz1:=aB BKz1 hb;replace BKv1:=aB BKv1 hb;replace BKv2:=aM (blk_below (g:=gbv2) (o:=.cells #[.int .i64 ((rd_T58 l0_1 (ji26)).f0),.int .i64 ((rd_T58 l0_1 (ji26)).f1),.slice Av1 ((rd_T58 l0_1 (ji26)).f2).length cv1,.int .i64 ((rd_T58 l0_1 (ji26)).f3.f0),.slice Av2 ((rd_T58 l0_1 (ji26)).f3.f1).length cv2] 58 (0,0)) (bX BKv2.out) hb);replace HB:=aS HB hb;clear hb hbox hg;have hnbv4:=NBv8.out;have hncv4:=NBv7.out;have hnbv5:=NBv10.out;have hncv5:=NBv9.out;have hnbv6:=NBv12.out;have hncv6:=NBv11.out;have hczv16:=cZ3 BKv3.out;have hczv19:=cZ5 BKv2.out;have hczv24:=cZ3 BKv1.out;refine Stop.out ?_))
     refine⟨?_⟩
     revert H;refine eN ?_ ?_<;>intro c31b0 c31b1 H
     ·obtain rfl:=sI H
      go_wp2
      go_ret
      exact⟨by first | rfl | (simp[errW_none,errW_some]<;>rfl) | (simp only[← hji26];first | rfl | (simp[errW_none,errW_some]<;>rfl)) | (simp[*,errW_none,errW_some]<;>rfl),(hX HB.out)⟩
     have H':=aM H
     clear H
     go_wp2
     go_roundg k2
     case measure=>have:=HJy1.out;have:=HKw1.out;omega
     case rel=>exact⟨(wrap64 (x27_2+1)),rS,H',⟨by have:=HJy1.out;have:=HKw1.out;omega⟩,⟨(bF BKz1.out)⟩,⟨(hX HB.out)⟩⟩
mutual
def Xq.j0:Nat→Bool→List (S78)→Int→Bool→List (S152)→List (S154)→Int→Option (Bool)
 | 0,_,_,_,_,_,_,_=>none
 | k+1,x46,x102000,x102001,x102002,x102003,x102004,x103000=>if x46=true then (some false) else (if x102002=true then (Xq.j1 k false x102000 x102001 x102002 x102003 x102004 x103000) else (Xq.j1 k (decide ((wrap64 ((x102003.length:Int)+(x102004.length:Int))) > 0)) x102000 x102001 x102002 x102003 x102004 x103000))
def Xq.j1:Nat→Bool→List (S78)→Int→Bool→List (S152)→List (S154)→Int→Option (Bool)
 | 0,_,_,_,_,_,_,_=>none
 | k+1,x59,x102000,x102001,x102002,x102003,x102004,x103000=>if x59=true then (some false) else ((Xae.f k x102003).bind fun t105=>(if t105=true then (some false) else ((Xah.f k x102004 x103000).bind fun t106=>(some (!t106)))))
end
def Xq.f (k:Nat) (l0_0:List (S78)) (a0_1:Int) (a0_2:Bool) (l0_3:List (S152)) (l0_4:List (S154)) (a1:Int):Option (Bool):=if (l0_0.length:Int) > 8 then (Xq.j0 k true l0_0 a0_1 a0_2 l0_3 l0_4 a1) else ((Xan.f k l0_0).bind fun t103=>(if t103=true then (Xq.j0 k true l0_0 a0_1 a0_2 l0_3 l0_4 a1) else ((Xe.f a0_1 0 (l0_0.length:Int)).bind fun t104=>(if t104=true then (if a0_2=true then (if a0_1=(l0_0.length:Int) then (Xq.j0 k true l0_0 a0_1 a0_2 l0_3 l0_4 a1) else (if (l0_3.length:Int) > 12 then (Xq.j0 k true l0_0 a0_1 a0_2 l0_3 l0_4 a1) else (Xq.j0 k (decide ((l0_4.length:Int) > 2)) l0_0 a0_1 a0_2 l0_3 l0_4 a1))) else (if (l0_3.length:Int) > 12 then (Xq.j0 k true l0_0 a0_1 a0_2 l0_3 l0_4 a1) else (Xq.j0 k (decide ((l0_4.length:Int) > 2)) l0_0 a0_1 a0_2 l0_3 l0_4 a1))) else (Xq.j0 k true l0_0 a0_1 a0_2 l0_3 l0_4 a1)))))
theorem Xq.calls (k:Nat) (A0_0:Option Addr) (c0_0:Nat) (l0_0:List (S78)) (a0_1:Int) (a0_2:Bool) (A0_3:Option Addr) (c0_3:Nat) (l0_3:List (S152)) (A0_4:Option Addr) (c0_4:Nat) (l0_4:List (S154)) (a1:Int) (r:Bool) (w:World) (h0_0:Rw k78 w A0_0 c0_0 l0_0) (h0_3:Rw k152 w A0_3 c0_3 l0_3) (h0_4:Rw k154 w A0_4 c0_4 l0_4) (H:Xq.f k l0_0 a0_1 a0_2 l0_3 l0_4 a1=some r) :
  Calls Tryz.prog 91 #[.agg #[.slice A0_0 l0_0.length c0_0,.int .i64 a0_1,.bool a0_2,.slice A0_3 l0_3.length c0_3,.slice A0_4 l0_4.length c0_4],.int .i64 a1] w fun e w'=>e = .returned (.bool r)∧Below w.heap.size w w':=by
 have hu108:=Tryz.underlying108
 obtain⟨HR0_0,HC0_0⟩:=h0_0
 obtain⟨HR0_3,HC0_3⟩:=h0_3
 obtain⟨HR0_4,HC0_4⟩:=h0_4
 have HB:=aM (Below.refl w.heap.size w)
 unfold Xq.f at H
 have HC3:=aM H
 clear H
 go_enter Tryz.func91,Tryz.ntmps91
 go_upto_region 1 with(first | ((with_reducible refine gate_dst (N:=2) rfl ?_);(try (refine gate_guard (by rfl) ?_;dsimp only));refine boxF 2 #[.slice A0_0 l0_0.length c0_0,.int .i64 a0_1,.bool a0_2,.slice A0_3 l0_3.length c0_3,.slice A0_4 l0_4.length c0_4] 108 ?_;intro gbz1 hg wz1 hbox hb;have BKz1:=aM (hbox);have GWz1:=aG hg HB;replace HB:=aS HB hb;clear hb hbox hg) | ((with_reducible refine gate_dst (N:=3) rfl ?_);(try (refine gate_guard (by rfl) ?_;dsimp only));refine boxF 3 #[.int .i64 a1] 3 ?_;intro gbz2 hg wz2 hbox hb;have BKz2:=aM (hbox);have GWz2:=aG hg HB;have NBz1:=aL hg BKz1;have NBz2:=aR hg BKz1;replace BKz1:=aB BKz1 hb;replace HB:=aS HB hb;clear hb hbox hg))
 (try simp only[Act.put,List.setIfInBounds_toArray,List.set_cons_zero,List.set_cons_succ])
 go_cut [46] (fun vz1 wc=>∃ (kq:Nat) (x46_2:Bool),vz1 = .bool x46_2∧Aside0 (Xq.j0 kq x46_2 l0_0 a0_1 a0_2 l0_3 l0_4 a1=some r)∧Aside0 (kq≤k)∧Aside0 (wc.heap[gbz1]? = some (.cells #[(.slice A0_0 l0_0.length c0_0),.int .i64 a0_1,.bool a0_2,(.slice A0_3 l0_3.length c0_3),(.slice A0_4 l0_4.length c0_4)] 108 (0,0)))∧Aside0 (wc.heap[gbz2]? = some (.cells #[.int .i64 a1] 3 (0,0)))∧Aside0 (Below w.heap.size w wc))
 case first =>
  have H:=HC3.out
  clear HC3
  by_cases c6:(l0_0.length:Int) > 8
  ·rw[if_pos c6] at H
   have c6b0:=decide_eq_true c6
   have c6b1:decide (8<l0_0.length)=true:=decide_eq_true (by omega)
   clear c6
   (first | rw[c6b0] | (simp only[i64_w,i32_w];rw[c6b0]) | skip)
   have H':=aM H
   clear H
   have hnby1:=NBz1.out
   have hncy1:=NBz2.out
   have hczy1:=cZ5 BKz1.out
   go_wp2
   go_meet
   case rel=>exact⟨_,(true),rS,H',⟨by first | omega | exact Nat.le_refl _⟩,⟨(bX BKz1.out)⟩,⟨(bX BKz2.out)⟩,⟨(hX HB.out)⟩⟩
  rw[if_neg c6] at H
  have c6b0:=decide_eq_false c6
  have c6b1:decide (8<l0_0.length)=false:=decide_eq_false (by omega)
  clear c6
  (first | rw[c6b0] | (simp only[i64_w,i32_w];rw[c6b0]) | skip)
  replace H:=bE H;obtain⟨t103,A9,H⟩:=H
  cases t103
  case true =>
   rw[if_pos rfl] at H
   have H':=aM H
   clear H
   have hnby1:=NBz1.out
   have hncy1:=NBz2.out
   have hczy1:=cZ5 BKz1.out
   go_wp2_with (go_at_call 154;(with_reducible refine(Xan.calls _ _ _ _ _ _ (rW HR0_0 HB HC0_0) A9.out).mono ?_);rintro e wy1 ⟨rfl,hb⟩;replace BKz1:=aB BKz1 hb;replace BKz2:=aB BKz2 hb;replace HB:=aS HB hb;clear hb)
   go_meet
   case rel=>exact⟨_,(true),rS,H',⟨by first | omega | exact Nat.le_refl _⟩,⟨(bX BKz1.out)⟩,⟨(bX BKz2.out)⟩,⟨(hX HB.out)⟩⟩
  rw[if_neg nft] at H
  replace H:=bE H;obtain⟨t104,A14,H⟩:=H
  have hnby1:=NBz1.out
  have hncy1:=NBz2.out
  have hczy1:=cZ5 BKz1.out
  go_wp2_with (go_at_call 154;(with_reducible refine(Xan.calls _ _ _ _ _ _ (rW HR0_0 HB HC0_0) A9.out).mono ?_);rintro e wy1 ⟨rfl,hb⟩;replace BKz1:=aB BKz1 hb;replace BKz2:=aB BKz2 hb;replace HB:=aS HB hb;clear hb;have hczy6:=cZ5 BKz1.out;refine Stop.out ?_)
  refine⟨?_⟩
  cases t104
  case false =>
   rw[if_neg nft] at H
   have H':=aM H
   clear H
   go_wp2_with (go_at_call 88;(with_reducible refine(Xe.calls _ _ _ _ _ A14.out).mono ?_);rintro e w' ⟨rfl,⟨nd,rfl⟩⟩)
   go_meet
   case rel=>exact⟨_,(true),rS,H',⟨by first | omega | exact Nat.le_refl _⟩,⟨(bX BKz1.out)⟩,⟨(bX BKz2.out)⟩,⟨(hX HB.out)⟩⟩
  rw[if_pos rfl] at H
  go_wp2_with (go_at_call 88;(with_reducible refine(Xe.calls _ _ _ _ _ A14.out).mono ?_);rintro e w' ⟨rfl,⟨nd,rfl⟩⟩;refine Stop.out ?_)
  refine⟨?_⟩
  by_cases c16:a0_2=true
  case neg =>
   replace c16:=Bool.eq_false_iff.mpr c16
   subst c16
   rw[if_neg nft] at H
   by_cases c31:(l0_3.length:Int) > 12
   ·rw[if_pos c31] at H
    have c31b0:=decide_eq_true c31
    have c31b1:decide (12<l0_3.length)=true:=decide_eq_true (by omega)
    clear c31
    have H':=aM H
    clear H
    go_wp2
    go_meet
    case rel=>exact⟨_,(true),rS,H',⟨by first | omega | exact Nat.le_refl _⟩,⟨(bX BKz1.out)⟩,⟨(bX BKz2.out)⟩,⟨(hX HB.out)⟩⟩
   rw[if_neg c31] at H
   have c31b0:=decide_eq_false c31
   have c31b1:decide (12<l0_3.length)=false:=decide_eq_false (by omega)
   clear c31
   have H':=aM H
   clear H
   go_wp2
   go_meet
   case rel=>exact⟨_,(decide ((l0_4.length:Int) > 2)),rS,H',⟨by first | omega | exact Nat.le_refl _⟩,⟨(bX BKz1.out)⟩,⟨(bX BKz2.out)⟩,⟨(hX HB.out)⟩⟩
  subst c16
  rw[if_pos rfl] at H
  revert H;refine eP ?_ ?_<;>intro c17b0 c17b1 H
  ·have H':=aM H
   clear H
   go_wp2
   go_meet
   case rel=>exact⟨_,(true),rS,H',⟨by first | omega | exact Nat.le_refl _⟩,⟨(bX BKz1.out)⟩,⟨(bX BKz2.out)⟩,⟨(hX HB.out)⟩⟩
  by_cases c22:(l0_3.length:Int) > 12
  ·rw[if_pos c22] at H
   have c22b0:=decide_eq_true c22
   have c22b1:decide (12<l0_3.length)=true:=decide_eq_true (by omega)
   clear c22
   have H':=aM H
   clear H
   go_wp2
   go_meet
   case rel=>exact⟨_,(true),rS,H',⟨by first | omega | exact Nat.le_refl _⟩,⟨(bX BKz1.out)⟩,⟨(bX BKz2.out)⟩,⟨(hX HB.out)⟩⟩
  rw[if_neg c22] at H
  have c22b0:=decide_eq_false c22
  have c22b1:decide (12<l0_3.length)=false:=decide_eq_false (by omega)
  clear c22
  have H':=aM H
  clear H
  go_wp2
  go_meet
  case rel=>exact⟨_,(decide ((l0_4.length:Int) > 2)),rS,H',⟨by first | omega | exact Nat.le_refl _⟩,⟨(bX BKz1.out)⟩,⟨(bX BKz2.out)⟩,⟨(hX HB.out)⟩⟩
 case rest =>
  clear HC3
  obtain⟨kq,x46_2,rfl,HA,HJy1,BKz1,BKz2,HB⟩:=hcut
  cases kq with
  | zero=>exact absurd HA.out (by simp[Xq.j0])
  | succ kj2 =>
   have H:=HA.out
   clear HA
   simp only[Xq.j0] at H
   cases x46_2
   case true =>
    rw[if_pos rfl] at H
    exact fR
   rw[if_neg nft] at H
   have HC45:=aM H
   clear H
   go_upto_region 3 with(fail)
   go_cut [59] (fun vx1 wc=>∃ (kq:Nat) (x59_44:Bool),vx1 = .bool x59_44∧Aside0 (Xq.j1 kq x59_44 l0_0 a0_1 a0_2 l0_3 l0_4 a1=some r)∧Aside0 (kq≤kj2)∧Aside0 (wc.heap[gbz1]? = some (.cells #[(.slice A0_0 l0_0.length c0_0),.int .i64 a0_1,.bool a0_2,(.slice A0_3 l0_3.length c0_3),(.slice A0_4 l0_4.length c0_4)] 108 (0,0)))∧Aside0 (wc.heap[gbz2]? = some (.cells #[.int .i64 a1] 3 (0,0)))∧Aside0 (Below w.heap.size w wc))
   case first =>
    have H:=HC45.out
    clear HC45
    by_cases c46:a0_2=true
    ·subst c46
     rw[if_pos rfl] at H
     have H':=aM H
     clear H
     have hnbw1:=NBz1.out
     have hncw1:=NBz2.out
     have hczw1:=cZ5 BKz1.out
     go_wp2
     go_meet
     case rel=>exact⟨_,(false),rS,H',⟨by have:=HJy1.out;first | omega | exact Nat.le_refl _⟩,⟨(bX BKz1.out)⟩,⟨(bX BKz2.out)⟩,⟨(hX HB.out)⟩⟩
    replace c46:=Bool.eq_false_iff.mpr c46
    subst c46
    rw[if_neg nft] at H
    have H':=aM H
    clear H
    have hnbw1:=NBz1.out
    have hncw1:=NBz2.out
    have hczw1:=cZ5 BKz1.out
    go_wp2
    go_meet
    case rel=>exact⟨_,(decide ((wrap64 ((l0_3.length:Int)+(l0_4.length:Int))) > 0)),rS,H',⟨by have:=HJy1.out;first | omega | exact Nat.le_refl _⟩,⟨(bX BKz1.out)⟩,⟨(bX BKz2.out)⟩,⟨(hX HB.out)⟩⟩
   case rest =>
    clear HC45
    obtain⟨kq,x59_44,rfl,HA,HJw1,BKz1,BKz2,HB⟩:=hcut
    cases kq with
    | zero=>exact absurd HA.out (by simp[Xq.j1])
    | succ kj44 =>
     have H:=HA.out
     clear HA
     simp only[Xq.j1] at H
     cases x59_44
     case true =>
      rw[if_pos rfl] at H
      exact fR
     rw[if_neg nft] at H
     replace H:=bE H;obtain⟨t105,A52,H⟩:=H
     cases t105
     case true =>
      rw[if_pos rfl] at H
      obtain rfl:=sI H
      have hnbv1:=NBz1.out
      have hncv1:=NBz2.out
      have hczv1:=cZ5 BKz1.out
      go_wp2_with (refine gB 156 62 Tryz.func156 (Xae.calls _ _ _ _ _ _ (rW HR0_3 HB HC0_3) A52.out) ?_;intro wv1 hb;replace BKz1:=aB BKz1 hb;replace BKz2:=aB BKz2 hb;replace HB:=aS HB hb;clear hb)
      go_ret
      exact⟨rE,(hX HB.out)⟩
     rw[if_neg nft] at H
     replace H:=bE H;obtain⟨t106,A57,H⟩:=H
     obtain rfl:=sI H
     have hnbv1:=NBz1.out
     have hncv1:=NBz2.out
     have hczv1:=cZ5 BKz1.out
     go_wp2_with (first | (refine gB 156 62 Tryz.func156 (Xae.calls _ _ _ _ _ _ (rW HR0_3 HB HC0_3) A52.out) ?_;intro wv1 hb;replace BKz1:=aB BKz1 hb;replace BKz2:=aB BKz2 hb;replace HB:=aS HB hb;clear hb;have hczv6:=cZ5 BKz1.out) | (refine gB 158 66 Tryz.func158 (Xah.calls kj44 _ _ l0_4 gbz2 a1 t106 _ (rW HR0_4 HB HC0_4) (by exact(bX BKz2.out)) A57.out) ?_;intro wv2 hb;replace BKz1:=aB BKz1 hb;replace BKz2:=aB BKz2 hb;replace HB:=aS HB hb;clear hb))
     go_ret
     exact⟨rE,(hX HB.out)⟩
end Go.Proofs.YthejoblnfpaojaaGreat.P
