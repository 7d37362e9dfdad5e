/- A part of the proof of the law FnStarts: texts of this seat, merged (words, printed functions of the program, plain lemmas). Conditions: none of its own. -/
import Derived.Test.YthejoblnfpaojaaGreatPkFnStarts33
set_option linter.unusedSimpArgs false
set_option linter.unusedVariables false
set_option maxHeartbeats 8000000
set_option maxRecDepth 100000
namespace Go.Proofs.YthejoblnfpaojaaGreat.P
open Go.Proofs.YthejoblnfpaojaaGreatZ Go.RowKit Go.Proofs.YthejoblnfpaojaaGreatW.PrintWords Go.Proofs.YthejoblnfpaojaaGreatW.PrintLast Go.Proofs.YthejoblnfpaojaaGreatW.PrintMore
attribute [local go_sem] max2_int min2_int max_two min_two max_three min_three max_four min_four   -- for this text's walks alone
mutual
def Xc.j0:Nat→Int→Bool→List (S51)→List (S58)→List (S108)→Int→List (S80)→List Int→List Int→Int→Option (Bool)
 | 0,_,_,_,_,_,_,_,_,_,_=>none
 | k+1,x3,x41,x102000,x102001,x102002,x102003,x102004,x102005,x102006,x102007=>if x41=true then (some false) else (Xc.l0 k x3 x102004 (x102004.length:Int) 0 x102000 x102001 x102002 x102003 x102004 x102005 x102006 x102007)
def Xc.l0:Nat→Int→List (S80)→Int→Int→List (S51)→List (S58)→List (S108)→Int→List (S80)→List Int→List Int→Int→Option (Bool)
 | 0,_,_,_,_,_,_,_,_,_,_,_,_=>none
 | k+1,x3,x44,x45,x46,x102000,x102001,x102002,x102003,x102004,x102005,x102006,x102007=>if x46<x45 then (if 0≤x46 then (if x46<(x44.length:Int) then ((Xe.f ((rd_T80 x44 x46).f0) 0 (wrap64 (x3 - 1))).bind fun t107=>(if t107=true then ((Xx.f k ((rd_T80 x44 x46).f1.f0) ((rd_T80 x44 x46).f1.f1) ((rd_T80 x44 x46).f1.f2)).bind fun t108=>(if t108=true then ((Xe.f ((rd_T80 x44 x46).f2) 0 x102003).bind fun t109=>(if t109=true then ((X7.f ((rd_T80 x44 x46).f0) ((rd_T80 x44 x46).f1.f0) ((rd_T80 x44 x46).f1.f1) ((rd_T80 x44 x46).f1.f2) ((rd_T80 x44 x46).f2) ((rd_T80 x44 x46).f3) ((rd_T80 x44 x46).f4) ((rd_T80 x44 x46).f5.f0) ((rd_T80 x44 x46).f5.f1) ((rd_T80 x44 x46).f3) x102000 x102001 x102002 x102003 x102004 x102005 x102006 x102007).bind fun t110=>(if t110=true then ((X7.f ((rd_T80 x44 x46).f0) ((rd_T80 x44 x46).f1.f0) ((rd_T80 x44 x46).f1.f1) ((rd_T80 x44 x46).f1.f2) ((rd_T80 x44 x46).f2) ((rd_T80 x44 x46).f3) ((rd_T80 x44 x46).f4) ((rd_T80 x44 x46).f5.f0) ((rd_T80 x44 x46).f5.f1) ((rd_T80 x44 x46).f4) x102000 x102001 x102002 x102003 x102004 x102005 x102006 x102007).bind fun t111=>(if t111=true then (Xc.l0 k x3 x44 x45 (wrap64 (x46+1)) x102000 x102001 x102002 x102003 x102004 x102005 x102006 x102007) else (some false))) else (some false))) else (some false))) else (some false))) else (some false))) else (none)) else (none)) else (Xc.l1 k x3 x102002 (x102002.length:Int) 0 x102000 x102001 x102002 x102003 x102004 x102005 x102006 x102007)
def Xc.l1:Nat→Int→List (S108)→Int→Int→List (S51)→List (S58)→List (S108)→Int→List (S80)→List Int→List Int→Int→Option (Bool)
 | 0,_,_,_,_,_,_,_,_,_,_,_,_=>none
 | k+1,x3,x88,x89,x90,x102000,x102001,x102002,x102003,x102004,x102005,x102006,x102007=>if x90<x89 then (if 0≤x90 then (if x90<(x88.length:Int) then ((Xq.f k ((rd_T108 x88 x90).f0) ((rd_T108 x88 x90).f1) ((rd_T108 x88 x90).f2) ((rd_T108 x88 x90).f3) ((rd_T108 x88 x90).f4) x3).bind fun t115=>(if t115=true then ((XU.f k x102000 x102001 x102002 x102003 x102004 x102005 x102006 x102007 x90).bind fun t116=>(if t116=true then (Xc.l1 k x3 x88 x89 (wrap64 (x90+1)) x102000 x102001 x102002 x102003 x102004 x102005 x102006 x102007) else (some false))) else (some false))) else (none)) else (none)) else ((Xf.f k x102000 x102001 x102002 x102003 x102004 x102005 x102006 x102007).bind fun t112=>(some t112))
end
def Xc.f (k:Nat) (l0_0:List (S51)) (l0_1:List (S58)) (l0_2:List (S108)) (a0_3:Int) (l0_4:List (S80)) (l0_5:List Int) (l0_6:List Int) (a0_7:Int):Option (Bool):=(Xy.f k l0_0 l0_1).bind fun t102=>(if t102=true then (if (l0_1.length:Int)=(l0_2.length:Int) then ((Xe.f a0_3 0 100000).bind fun t103=>(if t103=true then (if (l0_4.length:Int) > 40 then (Xc.j0 k (l0_2.length:Int) true l0_0 l0_1 l0_2 a0_3 l0_4 l0_5 l0_6 a0_7) else ((XP.f k l0_6 a0_7).bind fun t104=>(Xc.j0 k (l0_2.length:Int) (!t104) l0_0 l0_1 l0_2 a0_3 l0_4 l0_5 l0_6 a0_7))) else (Xc.j0 k (l0_2.length:Int) true l0_0 l0_1 l0_2 a0_3 l0_4 l0_5 l0_6 a0_7))) else (Xc.j0 k (l0_2.length:Int) true l0_0 l0_1 l0_2 a0_3 l0_4 l0_5 l0_6 a0_7)) else (Xc.j0 k (l0_2.length:Int) true l0_0 l0_1 l0_2 a0_3 l0_4 l0_5 l0_6 a0_7))
theorem Xc.calls (k:Nat) (A0_0:Option Addr) (c0_0:Nat) (l0_0:List (S51)) (A0_1:Option Addr) (c0_1:Nat) (l0_1:List (S58)) (A0_2:Option Addr) (c0_2:Nat) (l0_2:List (S108)) (a0_3:Int) (A0_4:Option Addr) (c0_4:Nat) (l0_4:List (S80)) (A0_5:Option Addr) (c0_5:Nat) (l0_5:List Int) (A0_6:Option Addr) (c0_6:Nat) (l0_6:List Int) (a0_7:Int) (r:Bool) (w:World) (h0_0:Rw k51 w A0_0 c0_0 l0_0) (h0_1:Rw k58 w A0_1 c0_1 l0_1) (h0_2:Rw k108 w A0_2 c0_2 l0_2) (h0_4:Rw k80 w A0_4 c0_4 l0_4) (h0_5:Rw (Kd.int .i64) w A0_5 c0_5 l0_5) (h0_6:Rw (Kd.int .i64) w A0_6 c0_6 l0_6) (H:Xc.f k l0_0 l0_1 l0_2 a0_3 l0_4 l0_5 l0_6 a0_7=some r) :
  Calls Tryz.prog 14 #[.agg #[.slice A0_0 l0_0.length c0_0,.slice A0_1 l0_1.length c0_1,.slice A0_2 l0_2.length c0_2,.int .i64 a0_3,.slice A0_4 l0_4.length c0_4,.slice A0_5 l0_5.length c0_5,.slice A0_6 l0_6.length c0_6,.int .i64 a0_7]] w fun e w'=>e = .returned (.bool r)∧Below w.heap.size w w':=by
 have hu37:=Tryz.underlying37
 have hu33:=Tryz.underlying33
 have hu26:=Tryz.underlying26
 have hu80:=Tryz.underlying80
 have hu78:=Tryz.underlying78
 have hu108:=Tryz.underlying108
 obtain⟨HR0_0,HC0_0⟩:=h0_0
 obtain⟨HR0_1,HC0_1⟩:=h0_1
 obtain⟨HR0_2,HC0_2⟩:=h0_2
 obtain⟨HR0_4,HC0_4⟩:=h0_4
 obtain⟨HR0_5,HC0_5⟩:=h0_5
 obtain⟨HR0_6,HC0_6⟩:=h0_6
 have HB:=aM (Below.refl w.heap.size w)
 unfold Xc.f at H
 have HC2:=aM H
 clear H
 go_enter Tryz.func14,Tryz.ntmps14
 go_upto_region 2 with((with_reducible refine gate_dst (N:=1) rfl ?_);(try (refine gate_guard (by rfl) ?_;dsimp only));refine boxF 1 #[.slice A0_0 l0_0.length c0_0,.slice A0_1 l0_1.length c0_1,.slice A0_2 l0_2.length c0_2,.int .i64 a0_3,.slice A0_4 l0_4.length c0_4,.slice A0_5 l0_5.length c0_5,.slice A0_6 l0_6.length c0_6,.int .i64 a0_7] 37 ?_;intro gbz1 hg wz1 hbox hb;have BKz1:=aM (hbox);have GWz1:=aG hg HB;replace HB:=aS HB hb;clear hb hbox hg;have hczz1:=cZ8 BKz1.out)
 (try simp only[Act.put,List.setIfInBounds_toArray,List.set_cons_zero,List.set_cons_succ])
 go_cut [41] (fun vz1 wc=>∃ (kq:Nat) (x41_1:Bool),vz1 = .bool x41_1∧Aside0 (Xc.j0 kq (l0_2.length:Int) x41_1 l0_0 l0_1 l0_2 a0_3 l0_4 l0_5 l0_6 a0_7=some r)∧Aside0 (kq≤k)∧Aside0 (wc.heap[gbz1]? = some (.cells #[(.slice A0_0 l0_0.length c0_0),(.slice A0_1 l0_1.length c0_1),(.slice A0_2 l0_2.length c0_2),.int .i64 a0_3,(.slice A0_4 l0_4.length c0_4),(.slice A0_5 l0_5.length c0_5),(.slice A0_6 l0_6.length c0_6),.int .i64 a0_7] 37 (0,0)))∧Aside0 (Below w.heap.size w wc))
 case first =>
  have H:=HC2.out
  clear HC2
  replace H:=bE H;obtain⟨t102,A5,H⟩:=H
  cases t102
  case false =>
   rw[if_neg nft] at H
   have H':=aM H
   clear H
   have hczy1:=cZ8 BKz1.out
   go_wp2_with (refine gB 29 14 Tryz.func29 (Xy.calls _ _ _ _ _ _ _ _ _ (rW HR0_0 HB HC0_0) (rW HR0_1 HB HC0_1) A5.out) ?_;intro wy1 hb;replace BKz1:=aB BKz1 hb;replace HB:=aS HB hb;clear hb)
   go_meet
   case rel=>exact⟨_,(true),rS,H',⟨by first | omega | exact Nat.le_refl _⟩,⟨(bX BKz1.out)⟩,⟨(hX HB.out)⟩⟩
  rw[if_pos rfl] at H
  have hczy1:=cZ8 BKz1.out
  go_wp2_with (refine gB 29 14 Tryz.func29 (Xy.calls _ _ _ _ _ _ _ _ _ (rW HR0_0 HB HC0_0) (rW HR0_1 HB HC0_1) A5.out) ?_;intro wy1 hb;replace BKz1:=aB BKz1 hb;replace HB:=aS HB hb;clear hb;have hczy9:=cZ8 BKz1.out;refine Stop.out ?_)
  refine⟨?_⟩
  by_cases c7:(l0_1.length:Int)=(l0_2.length:Int)
  case neg =>
   rw[if_neg c7] at H
   obtain⟨c7b0,c7b1⟩:=eqF c7
   have c7b2:(l0_1.length == l0_2.length)=false:=by first | simpa using c7 | (simp at c7 ⊢;omega)
   (first | rw[c7b0] | (simp only[i64_w,i32_w];rw[c7b0]) | skip)
   have H':=aM H
   clear H
   go_wp2
   go_meet
   case rel=>exact⟨_,(true),rS,H',⟨by first | omega | exact Nat.le_refl _⟩,⟨(bX BKz1.out)⟩,⟨(hX HB.out)⟩⟩
  rw[if_pos c7] at H
  obtain⟨c7b0,c7b1⟩:=eqT c7
  have c7b2:(l0_1.length == l0_2.length)=true:=by first | simpa using c7 | (simp at c7 ⊢;omega)
  clear c7
  (first | rw[c7b0] | (simp only[i64_w,i32_w];rw[c7b0]) | skip)
  replace H:=bE H;obtain⟨t103,A8,H⟩:=H
  cases t103
  case false =>
   rw[if_neg nft] at H
   have H':=aM H
   clear H
   go_wp2_with (go_at_call 88;(with_reducible refine(Xe.calls _ _ _ _ _ A8.out).mono ?_);rintro e w' ⟨rfl,⟨nd,rfl⟩⟩)
   go_meet
   case rel=>exact⟨_,(true),rS,H',⟨by first | omega | exact Nat.le_refl _⟩,⟨(bX BKz1.out)⟩,⟨(hX HB.out)⟩⟩
  rw[if_pos rfl] at H
  go_wp2_with (go_at_call 88;(with_reducible refine(Xe.calls _ _ _ _ _ A8.out).mono ?_);rintro e w' ⟨rfl,⟨nd,rfl⟩⟩;refine Stop.out ?_)
  refine⟨?_⟩
  by_cases c10:(l0_4.length:Int) > 40
  ·rw[if_pos c10] at H
   have c10b0:=decide_eq_true c10
   have c10b1:decide (40<l0_4.length)=true:=decide_eq_true (by omega)
   clear c10
   have H':=aM H
   clear H
   go_wp2
   go_meet
   case rel=>exact⟨_,(true),rS,H',⟨by first | omega | exact Nat.le_refl _⟩,⟨(bX BKz1.out)⟩,⟨(hX HB.out)⟩⟩
  rw[if_neg c10] at H
  have c10b0:=decide_eq_false c10
  have c10b1:decide (40<l0_4.length)=false:=decide_eq_false (by omega)
  clear c10
  replace H:=bE H;obtain⟨t104,A14,H⟩:=H
  have H':=aM H
  clear H
  go_wp2_with (go_at_call 64;(with_reducible refine(XP.calls _ _ _ _ _ _ _ (rW HR0_6 HB HC0_6) A14.out).mono ?_);rintro e wy2 ⟨rfl,hb⟩;replace BKz1:=aB BKz1 hb;replace HB:=aS HB hb;clear hb)
  go_meet
  case rel=>exact⟨_,(!t104),rS,H',⟨by first | omega | exact Nat.le_refl _⟩,⟨(bX BKz1.out)⟩,⟨(hX HB.out)⟩⟩
 case rest =>
  clear HC2
  try clear hczz1
  obtain⟨kq,x41_1,rfl,HA,HJy1,BKz1,HB⟩:=hcut
  cases kq with
  | zero=>exact absurd HA.out (by simp[Xc.j0])
  | succ kj1 =>
   have H:=HA.out
   clear HA
   simp only[Xc.j0] at H
   cases x41_1
   case true =>
    rw[if_pos rfl] at H
    exact fR
   rw[if_neg nft] at H
   have H':=aM H
   clear H
   have hczx1:=cZ8 BKz1.out
   go_wp2
   go_loopg [46] kj1 (fun kq v46 w'=>∃ (x46_2:Int),v46 = .int .i64 x46_2∧Aside0 (Xc.l0 kq (l0_2.length:Int) l0_4 (l0_4.length:Int) x46_2 l0_0 l0_1 l0_2 a0_3 l0_4 l0_5 l0_6 a0_7=some r)∧Aside0 (kq≤kj1)∧Aside0 (w'.heap[gbz1]? = some (.cells #[(.slice A0_0 l0_0.length c0_0),(.slice A0_1 l0_1.length c0_1),(.slice A0_2 l0_2.length c0_2),.int .i64 a0_3,(.slice A0_4 l0_4.length c0_4),(.slice A0_5 l0_5.length c0_5),(.slice A0_6 l0_6.length c0_6),.int .i64 a0_7] 37 (0,0)))∧Aside0 (Below w.heap.size w w'))
   case atStart=>exact⟨(0),rS,H',⟨Nat.le_refl _⟩,⟨(bX BKz1.out)⟩,⟨(hX HB.out)⟩⟩
   case round =>
    clear H'
    try clear hczx1
    try clear hczz1
    obtain⟨x46_2,rfl,HA,HKw1,BKz1,HB⟩:=hrel
    cases gk with
    | zero=>exact absurd HA.out (by simp[Xc.l0])
    | succ k2 =>
     have H:=HA.out
     clear HA
     simp only[Xc.l0] at H
     revert H;refine iN ?_ ?_<;>intro c29b0 H
     ·have H':=aM H
      clear H
      have hczv1:=cZ8 BKz1.out
      go_wp2
      go_loopg [90] k2 (fun kq v90 w'=>∃ (x90_3:Int),v90 = .int .i64 x90_3∧Aside0 (Xc.l1 kq (l0_2.length:Int) l0_2 (l0_2.length:Int) x90_3 l0_0 l0_1 l0_2 a0_3 l0_4 l0_5 l0_6 a0_7=some r)∧Aside0 (kq≤k2)∧Aside0 (w'.heap[gbz1]? = some (.cells #[(.slice A0_0 l0_0.length c0_0),(.slice A0_1 l0_1.length c0_1),(.slice A0_2 l0_2.length c0_2),.int .i64 a0_3,(.slice A0_4 l0_4.length c0_4),(.slice A0_5 l0_5.length c0_5),(.slice A0_6 l0_6.length c0_6),.int .i64 a0_7] 37 (0,0)))∧Aside0 (Below w.heap.size w w'))
      case atStart=>exact⟨(0),rS,H',⟨Nat.le_refl _⟩,⟨(bX BKz1.out)⟩,⟨(hX HB.out)⟩⟩
      case round =>
       clear H'
       try clear c29b0
       try clear hczx1
       try clear hczz1
       try clear hczv1
       obtain⟨x90_3,rfl,HA,HKu1,BKz1,HB⟩:=hrel
       cases gk with
       | zero=>exact absurd HA.out (by simp[Xc.l1])
       | succ k3 =>
        have H:=HA.out
        clear HA
        simp only[Xc.l1] at H
        revert H;refine iN ?_ ?_<;>intro c81b0 H
        ·replace H:=bE H;obtain⟨t112,A104,H⟩:=H
         obtain rfl:=sI H
         have hczt1:=cZ8 BKz1.out
         go_wp2_with (refine gB 93 107 Tryz.func93 (Xf.calls _ _ _ _ _ _ _ _ _ _ _ _ _ _ _ _ _ _ _ _ _ _ _ (rW HR0_0 HB HC0_0) (rW HR0_1 HB HC0_1) (rW HR0_2 HB HC0_2) (rW HR0_4 HB HC0_4) (rW HR0_5 HB HC0_5) (rW HR0_6 HB HC0_6) A104.out) ?_;intro wt1 hb;replace BKz1:=aB BKz1 hb;replace HB:=aS HB hb;clear hb)
         go_ret
         exact⟨rE,(hX HB.out)⟩
        replace H:=ifQ H;obtain⟨c82b0,H⟩:=H
        replace H:=ifQ H;obtain⟨c83b0,H⟩:=H
        replace H:=bE H;obtain⟨t115,A84,H⟩:=H
        obtain⟨adt1,At1,ct1,At2,ct2,At3,ct3,et1,pt1,qt1,hxt1,HCt1,HRt1,HCt2,HRt2,HCt3,HRt3⟩:=at_T108c HR0_2 HB x90_3
        cases et1
        go_wp2_with ((with_reducible refine gate_dst (N:=8) rfl ?_);(try (refine gate_guard (by rfl) ?_;dsimp only));refine boxF 8 #[.slice none 0 0,.int .i64 0,.bool false,.slice none 0 0,.slice none 0 0] 108 ?_;intro gbt1 hg wt1 hbox hb;have BKt1:=aM (hbox);have GWt1:=aG hg HB;have NBt1:=aL hg BKz1;have NBt2:=aR hg BKz1;replace BKz1:=aB BKz1 hb;replace HB:=aS HB hb;clear hb hbox hg;have hnbt1:=nB NBt2 NBt1;have hczt1:=cZ5 BKt1.out;refine Stop.out ?_)
        refine⟨?_⟩
        cases t115
        case false =>
         rw[if_neg nft] at H
         obtain rfl:=sI H
         go_wp2_with (refine gB 91 97 Tryz.func91 (Xq.calls k3 _ _ ((rd_T108 l0_2 x90_3).f0) ((rd_T108 l0_2 x90_3).f1) ((rd_T108 l0_2 x90_3).f2) _ _ ((rd_T108 l0_2 x90_3).f3) _ _ ((rd_T108 l0_2 x90_3).f4) (l0_2.length:Int) false _ (rW HRt1 HB HCt1) (rW HRt2 HB HCt2) (rW HRt3 HB HCt3) A84.out) ?_;intro wt2 hb;replace BKz1:=aF BKz1 hb;replace BKt1:=aM (blk_below (g:=gbt1) (o:=.cells #[.slice At1 ((rd_T108 l0_2 x90_3).f0).length ct1,.int .i64 ((rd_T108 l0_2 x90_3).f1),.bool ((rd_T108 l0_2 x90_3).f2),.slice At2 ((rd_T108 l0_2 x90_3).f3).length ct2,.slice At3 ((rd_T108 l0_2 x90_3).f4).length ct3] 108 (0,0)) (bP BKt1.out) hb);replace HB:=aS HB hb;clear hb)
         go_ret
         exact⟨rE,(hX HB.out)⟩
        rw[if_pos rfl] at H
        replace H:=bE H;obtain⟨t116,A86,H⟩:=H
        go_wp2_with (refine gB 91 97 Tryz.func91 (Xq.calls k3 _ _ ((rd_T108 l0_2 x90_3).f0) ((rd_T108 l0_2 x90_3).f1) ((rd_T108 l0_2 x90_3).f2) _ _ ((rd_T108 l0_2 x90_3).f3) _ _ ((rd_T108 l0_2 x90_3).f4) (l0_2.length:Int) true _ (rW HRt1 HB HCt1) (rW HRt2 HB HCt2) (rW HRt3 HB HCt3) A84.out) ?_;intro wt2 hb;replace BKz1:=aF BKz1 hb;replace BKt1:=aM (blk_below (g:=gbt1) (o:=.cells #[.slice At1 ((rd_T108 l0_2 x90_3).f0).length ct1,.int .i64 ((rd_T108 l0_2 x90_3).f1),.bool ((rd_T108 l0_2 x90_3).f2),.slice At2 ((rd_T108 l0_2 x90_3).f3).length ct2,.slice At3 ((rd_T108 l0_2 x90_3).f4).length ct3] 108 (0,0)) (bP BKt1.out) hb);replace HB:=aS HB hb;clear hb;have hczt6:=cZ8 BKz1.out;refine Stop.out ?_)
        refine⟨?_⟩
        cases t116
        case false =>
         rw[if_neg nft] at H
         obtain rfl:=sI H
         go_wp2_with (go_at_call 92;(with_reducible refine(XU.calls _ _ _ _ _ _ _ _ _ _ _ _ _ _ _ _ _ _ _ _ _ _ _ _ (rW HR0_0 HB HC0_0) (rW HR0_1 HB HC0_1) (rW HR0_2 HB HC0_2) (rW HR0_4 HB HC0_4) (rW HR0_5 HB HC0_5) (rW HR0_6 HB HC0_6) A86.out).mono ?_);rintro e wt3 ⟨rfl,hb⟩;replace BKz1:=aB BKz1 hb;replace BKt1:=aB BKt1 hb;replace HB:=aS HB hb;clear hb)
         go_ret
         exact⟨rE,(hX HB.out)⟩
        rw[if_pos rfl] at H
        have H':=aM H
        clear H
        go_wp2_with (go_at_call 92;(with_reducible refine(XU.calls _ _ _ _ _ _ _ _ _ _ _ _ _ _ _ _ _ _ _ _ _ _ _ _ (rW HR0_0 HB HC0_0) (rW HR0_1 HB HC0_1) (rW HR0_2 HB HC0_2) (rW HR0_4 HB HC0_4) (rW HR0_5 HB HC0_5) (rW HR0_6 HB HC0_6) A86.out).mono ?_);rintro e wt3 ⟨rfl,hb⟩;replace BKz1:=aB BKz1 hb;replace BKt1:=aB BKt1 hb;replace HB:=aS HB hb;clear hb)
        go_roundg k3
        case measure=>have:=HJy1.out;have:=HKw1.out;have:=HKu1.out;omega
        case rel=>exact⟨(wrap64 (x90_3+1)),rS,H',⟨by have:=HJy1.out;have:=HKw1.out;have:=HKu1.out;omega⟩,⟨(bX BKz1.out)⟩,⟨(hX HB.out)⟩⟩
     replace H:=ifQ H;obtain⟨c30b0,H⟩:=H
     replace H:=ifQ H;obtain⟨c31b0,H⟩:=H
     replace H:=bE H;obtain⟨t107,A32,H⟩:=H
     obtain⟨adv1,Av1,cv1,ev1,pv1,qv1,hxv1,HCv1,HRv1⟩:=at_T80c HR0_4 HB x46_2
     cases ev1
     go_wp2_with ((with_reducible refine gate_dst (N:=6) rfl ?_);(try (refine gate_guard (by rfl) ?_;dsimp only));refine boxF 6 #[.int .i64 0,.int .i64 0,.int .i64 0,.int .i64 0,.int .i64 0,.int .i64 0,.int .i64 0,.int .i64 0,.slice none 0 0] 80 ?_;intro gbv1 hg wv1 hbox hb;have BKv1:=aM (hbox);have GWv1:=aG hg HB;have NBv1:=aL hg BKz1;have NBv2:=aR hg BKz1;replace BKz1:=aB BKz1 hb;replace HB:=aS HB hb;clear hb hbox hg;have hnbv1:=nB NBv2 NBv1;have hczv1:=cZ9 BKv1.out;refine Stop.out ?_)
     refine⟨?_⟩
     cases t107
     case false =>
      rw[if_neg nft] at H
      obtain rfl:=sI H
      go_wp2_with (refine gD 88 54 Tryz.func88 (Xe.calls _ _ _ _ _ A32.out) ?_;intro nd)
      go_ret
      exact⟨rE,(hX HB.out)⟩
     rw[if_pos rfl] at H
     replace H:=bE H;obtain⟨t108,A34,H⟩:=H
     go_wp2_with (refine gD 88 54 Tryz.func88 (Xe.calls _ _ _ _ _ A32.out) ?_;intro nd;refine Stop.out ?_)
     refine⟨?_⟩
     cases t108
     case false =>
      rw[if_neg nft] at H
      obtain rfl:=sI H
      go_wp2_with (go_at_call 90;(with_reducible refine(Xx.calls _ _ _ _ _ _ A34.out).mono ?_);rintro e wv2 ⟨rfl,hb⟩;replace BKz1:=aF BKz1 hb;replace BKv1:=aM (blk_below (g:=gbv1) (o:=.cells #[.int .i64 ((rd_T80 l0_4 x46_2).f0),.int .i64 ((rd_T80 l0_4 x46_2).f1.f0),.int .i64 ((rd_T80 l0_4 x46_2).f1.f1),.int .i64 ((rd_T80 l0_4 x46_2).f1.f2),.int .i64 ((rd_T80 l0_4 x46_2).f2),.int .i64 ((rd_T80 l0_4 x46_2).f3),.int .i64 ((rd_T80 l0_4 x46_2).f4),.int .i64 ((rd_T80 l0_4 x46_2).f5.f0),.slice Av1 ((rd_T80 l0_4 x46_2).f5.f1).length cv1] 80 (0,0)) (bP BKv1.out) hb);replace HB:=aS HB hb;clear hb)
      go_ret
      exact⟨rE,(hX HB.out)⟩
     rw[if_pos rfl] at H
     replace H:=bE H;obtain⟨t109,A36,H⟩:=H
     go_wp2_with (go_at_call 90;(with_reducible refine(Xx.calls _ _ _ _ _ _ A34.out).mono ?_);rintro e wv2 ⟨rfl,hb⟩;replace BKz1:=aF BKz1 hb;replace BKv1:=aM (blk_below (g:=gbv1) (o:=.cells #[.int .i64 ((rd_T80 l0_4 x46_2).f0),.int .i64 ((rd_T80 l0_4 x46_2).f1.f0),.int .i64 ((rd_T80 l0_4 x46_2).f1.f1),.int .i64 ((rd_T80 l0_4 x46_2).f1.f2),.int .i64 ((rd_T80 l0_4 x46_2).f2),.int .i64 ((rd_T80 l0_4 x46_2).f3),.int .i64 ((rd_T80 l0_4 x46_2).f4),.int .i64 ((rd_T80 l0_4 x46_2).f5.f0),.slice Av1 ((rd_T80 l0_4 x46_2).f5.f1).length cv1] 80 (0,0)) (bP BKv1.out) hb);replace HB:=aS HB hb;clear hb;have hczv10:=cZ9 BKv1.out;have hczv19:=cZ8 BKz1.out;refine Stop.out ?_)
     refine⟨?_⟩
     cases t109
     case false =>
      rw[if_neg nft] at H
      obtain rfl:=sI H
      go_wp2_with (go_at_call 88;(with_reducible refine(Xe.calls _ _ _ _ _ A36.out).mono ?_);rintro e w' ⟨rfl,⟨nd,rfl⟩⟩)
      go_ret
      exact⟨rE,(hX HB.out)⟩
     rw[if_pos rfl] at H
     replace H:=bE H;obtain⟨t110,A38,H⟩:=H
     go_wp2_with (go_at_call 88;(with_reducible refine(Xe.calls _ _ _ _ _ A36.out).mono ?_);rintro e w' ⟨rfl,⟨nd,rfl⟩⟩;refine Stop.out ?_)
     refine⟨?_⟩
     cases t110
     case false =>
      rw[if_neg nft] at H
      obtain rfl:=sI H
      go_wp2_with ((with_reducible refine gate_calleeT (t:=71) rfl ?_);(try (refine gate_guard (by rfl) ?_;dsimp only));refine goesTC_ (some 75) 71 rfl rfl Tryz.func89 (by kernel_rfl) rfl #[.agg #[.int .i64 ((rd_T80 l0_4 x46_2).f0),.int .i64 ((rd_T80 l0_4 x46_2).f1.f0),.int .i64 ((rd_T80 l0_4 x46_2).f1.f1),.int .i64 ((rd_T80 l0_4 x46_2).f1.f2),.int .i64 ((rd_T80 l0_4 x46_2).f2),.int .i64 ((rd_T80 l0_4 x46_2).f3),.int .i64 ((rd_T80 l0_4 x46_2).f4),.int .i64 ((rd_T80 l0_4 x46_2).f5.f0),.slice Av1 ((rd_T80 l0_4 x46_2).f5.f1).length cv1],.int .i64 ((rd_T80 l0_4 x46_2).f3)] #[.pointer (some ⟨gbz1,0,none⟩)] #[.agg #[.int .i64 ((rd_T80 l0_4 x46_2).f0),.int .i64 ((rd_T80 l0_4 x46_2).f1.f0),.int .i64 ((rd_T80 l0_4 x46_2).f1.f1),.int .i64 ((rd_T80 l0_4 x46_2).f1.f2),.int .i64 ((rd_T80 l0_4 x46_2).f2),.int .i64 ((rd_T80 l0_4 x46_2).f3),.int .i64 ((rd_T80 l0_4 x46_2).f4),.int .i64 ((rd_T80 l0_4 x46_2).f5.f0),.slice Av1 ((rd_T80 l0_4 x46_2).f5.f1).length cv1],.int .i64 ((rd_T80 l0_4 x46_2).f3),.pointer (some ⟨gbz1,0,none⟩)] rfl rfl (by (try simp only[List.map_toArray,List.map_cons,List.map_nil]);first | done | rfl | (simp only[List.length_drop,List.length_take];rfl)) rfl ?_;(with_reducible refine(X7.calls ((rd_T80 l0_4 x46_2).f0) ((rd_T80 l0_4 x46_2).f1.f0) ((rd_T80 l0_4 x46_2).f1.f1) ((rd_T80 l0_4 x46_2).f1.f2) ((rd_T80 l0_4 x46_2).f2) ((rd_T80 l0_4 x46_2).f3) ((rd_T80 l0_4 x46_2).f4) ((rd_T80 l0_4 x46_2).f5.f0) _ _ ((rd_T80 l0_4 x46_2).f5.f1) ((rd_T80 l0_4 x46_2).f3) gbz1 A0_0 c0_0 l0_0 A0_1 c0_1 l0_1 A0_2 c0_2 l0_2 a0_3 (some adv1) c0_4 l0_4 A0_5 c0_5 l0_5 A0_6 c0_6 l0_6 a0_7 false _ (rW HRv1 HB HCv1) (rW HR0_0 HB HC0_0) (rW HR0_1 HB HC0_1) (rW HR0_2 HB HC0_2) (rW HR0_4 HB HC0_4) (rW HR0_5 HB HC0_5) (rW HR0_6 HB HC0_6) (by exact(bX BKz1.out)) A38.out).mono ?_);rintro e wv3 ⟨rfl,hb⟩;refine⟨_,rfl,?_⟩;replace BKz1:=aB BKz1 hb;replace BKv1:=aB BKv1 hb;replace HB:=aS HB hb;clear hb)
      go_ret
      exact⟨rE,(hX HB.out)⟩
     rw[if_pos rfl] at H
     replace H:=bE H;obtain⟨t111,A40,H⟩:=H
     go_wp2_with ((with_reducible refine gate_calleeT (t:=71) rfl ?_);(try (refine gate_guard (by rfl) ?_;dsimp only));refine goesTC_ (some 75) 71 rfl rfl Tryz.func89 (by kernel_rfl) rfl #[.agg #[.int .i64 ((rd_T80 l0_4 x46_2).f0),.int .i64 ((rd_T80 l0_4 x46_2).f1.f0),.int .i64 ((rd_T80 l0_4 x46_2).f1.f1),.int .i64 ((rd_T80 l0_4 x46_2).f1.f2),.int .i64 ((rd_T80 l0_4 x46_2).f2),.int .i64 ((rd_T80 l0_4 x46_2).f3),.int .i64 ((rd_T80 l0_4 x46_2).f4),.int .i64 ((rd_T80 l0_4 x46_2).f5.f0),.slice Av1 ((rd_T80 l0_4 x46_2).f5.f1).length cv1],.int .i64 ((rd_T80 l0_4 x46_2).f3)] #[.pointer (some ⟨gbz1,0,none⟩)] #[.agg #[.int .i64 ((rd_T80 l0_4 x46_2).f0),.int .i64 ((rd_T80 l0_4 x46_2).f1.f0),.int .i64 ((rd_T80 l0_4 x46_2).f1.f1),.int .i64 ((rd_T80 l0_4 x46_2).f1.f2),.int .i64 ((rd_T80 l0_4 x46_2).f2),.int .i64 ((rd_T80 l0_4 x46_2).f3),.int .i64 ((rd_T80 l0_4 x46_2).f4),.int .i64 ((rd_T80 l0_4 x46_2).f5.f0),.slice Av1 ((rd_T80 l0_4 x46_2).f5.f1).length cv1],.int .i64 ((rd_T80 l0_4 x46_2).f3),.pointer (some ⟨gbz1,0,none⟩)] rfl rfl (by (try simp only[List.map_toArray,List.map_cons,List.map_nil]);first | done | rfl | (simp only[List.length_drop,List.length_take];rfl)) rfl ?_;(with_reducible refine(X7.calls ((rd_T80 l0_4 x46_2).f0) ((rd_T80 l0_4 x46_2).f1.f0) ((rd_T80 l0_4 x46_2).f1.f1) ((rd_T80 l0_4 x46_2).f1.f2) ((rd_T80 l0_4 x46_2).f2) ((rd_T80 l0_4 x46_2).f3) ((rd_T80 l0_4 x46_2).f4) ((rd_T80 l0_4 x46_2).f5.f0) _ _ ((rd_T80 l0_4 x46_2).f5.f1) ((rd_T80 l0_4 x46_2).f3) gbz1 A0_0 c0_0 l0_0 A0_1 c0_1 l0_1 A0_2 c0_2 l0_2 a0_3 (some adv1) c0_4 l0_4 A0_5 c0_5 l0_5 A0_6 c0_6 l0_6 a0_7 true _ (rW HRv1 HB HCv1) (rW HR0_0 HB HC0_0) (rW HR0_1 HB HC0_1) (rW HR0_2 HB HC0_2) (rW HR0_4 HB HC0_4) (rW HR0_5 HB HC0_5) (rW HR0_6 HB HC0_6) (by exact(bX BKz1.out)) A38.out).mono ?_);rintro e wv3 ⟨rfl,hb⟩;refine⟨_,rfl,?_⟩;replace BKz1:=aB BKz1 hb;replace BKv1:=aB BKv1 hb;replace HB:=aS HB hb;clear hb;have hczv27:=cZ9 BKv1.out;refine Stop.out ?_)
     refine⟨?_⟩
     cases t111
     case false =>
      rw[if_neg nft] at H
      obtain rfl:=sI H
      go_wp2_with ((with_reducible refine gate_calleeT (t:=79) rfl ?_);(try (refine gate_guard (by rfl) ?_;dsimp only));refine goesTC_ (some 83) 79 rfl rfl Tryz.func89 (by kernel_rfl) rfl #[.agg #[.int .i64 ((rd_T80 l0_4 x46_2).f0),.int .i64 ((rd_T80 l0_4 x46_2).f1.f0),.int .i64 ((rd_T80 l0_4 x46_2).f1.f1),.int .i64 ((rd_T80 l0_4 x46_2).f1.f2),.int .i64 ((rd_T80 l0_4 x46_2).f2),.int .i64 ((rd_T80 l0_4 x46_2).f3),.int .i64 ((rd_T80 l0_4 x46_2).f4),.int .i64 ((rd_T80 l0_4 x46_2).f5.f0),.slice Av1 ((rd_T80 l0_4 x46_2).f5.f1).length cv1],.int .i64 ((rd_T80 l0_4 x46_2).f4)] #[.pointer (some ⟨gbz1,0,none⟩)] #[.agg #[.int .i64 ((rd_T80 l0_4 x46_2).f0),.int .i64 ((rd_T80 l0_4 x46_2).f1.f0),.int .i64 ((rd_T80 l0_4 x46_2).f1.f1),.int .i64 ((rd_T80 l0_4 x46_2).f1.f2),.int .i64 ((rd_T80 l0_4 x46_2).f2),.int .i64 ((rd_T80 l0_4 x46_2).f3),.int .i64 ((rd_T80 l0_4 x46_2).f4),.int .i64 ((rd_T80 l0_4 x46_2).f5.f0),.slice Av1 ((rd_T80 l0_4 x46_2).f5.f1).length cv1],.int .i64 ((rd_T80 l0_4 x46_2).f4),.pointer (some ⟨gbz1,0,none⟩)] rfl rfl (by (try simp only[List.map_toArray,List.map_cons,List.map_nil]);first | done | rfl | (simp only[List.length_drop,List.length_take];rfl)) rfl ?_;(with_reducible refine(X7.calls ((rd_T80 l0_4 x46_2).f0) ((rd_T80 l0_4 x46_2).f1.f0) ((rd_T80 l0_4 x46_2).f1.f1) ((rd_T80 l0_4 x46_2).f1.f2) ((rd_T80 l0_4 x46_2).f2) ((rd_T80 l0_4 x46_2).f3) ((rd_T80 l0_4 x46_2).f4) ((rd_T80 l0_4 x46_2).f5.f0) _ _ ((rd_T80 l0_4 x46_2).f5.f1) ((rd_T80 l0_4 x46_2).f4) gbz1 A0_0 c0_0 l0_0 A0_1 c0_1 l0_1 A0_2 c0_2 l0_2 a0_3 (some adv1) c0_4 l0_4 A0_5 c0_5 l0_5 A0_6 c0_6 l0_6 a0_7 false _ (rW HRv1 HB HCv1) (rW HR0_0 HB HC0_0) (rW HR0_1 HB HC0_1) (rW HR0_2 HB HC0_2) (rW HR0_4 HB HC0_4) (rW HR0_5 HB HC0_5) (rW HR0_6 HB HC0_6) (by exact(bX BKz1.out)) A40.out).mono ?_);rintro e wv4 ⟨rfl,hb⟩;refine⟨_,rfl,?_⟩;replace BKz1:=aB BKz1 hb;replace BKv1:=aB BKv1 hb;replace HB:=aS HB hb;clear hb)
      go_ret
      exact⟨rE,(hX HB.out)⟩
     rw[if_pos rfl] at H
     have H':=aM H
     clear H
     go_wp2_with ((with_reducible refine gate_calleeT (t:=79) rfl ?_);(try (refine gate_guard (by rfl) ?_;dsimp only));refine goesTC_ (some 83) 79 rfl rfl Tryz.func89 (by kernel_rfl) rfl #[.agg #[.int .i64 ((rd_T80 l0_4 x46_2).f0),.int .i64 ((rd_T80 l0_4 x46_2).f1.f0),.int .i64 ((rd_T80 l0_4 x46_2).f1.f1),.int .i64 ((rd_T80 l0_4 x46_2).f1.f2),.int .i64 ((rd_T80 l0_4 x46_2).f2),.int .i64 ((rd_T80 l0_4 x46_2).f3),.int .i64 ((rd_T80 l0_4 x46_2).f4),.int .i64 ((rd_T80 l0_4 x46_2).f5.f0),.slice Av1 ((rd_T80 l0_4 x46_2).f5.f1).length cv1],.int .i64 ((rd_T80 l0_4 x46_2).f4)] #[.pointer (some ⟨gbz1,0,none⟩)] #[.agg #[.int .i64 ((rd_T80 l0_4 x46_2).f0),.int .i64 ((rd_T80 l0_4 x46_2).f1.f0),.int .i64 ((rd_T80 l0_4 x46_2).f1.f1),.int .i64 ((rd_T80 l0_4 x46_2).f1.f2),.int .i64 ((rd_T80 l0_4 x46_2).f2),.int .i64 ((rd_T80 l0_4 x46_2).f3),.int .i64 ((rd_T80 l0_4 x46_2).f4),.int .i64 ((rd_T80 l0_4 x46_2).f5.f0),.slice Av1 ((rd_T80 l0_4 x46_2).f5.f1).length cv1],.int .i64 ((rd_T80 l0_4 x46_2).f4),.pointer (some ⟨gbz1,0,none⟩)] rfl rfl (by (try simp only[List.map_toArray,List.map_cons,List.map_nil]);first | done | rfl | (simp only[List.length_drop,List.length_take];rfl)) rfl ?_;(with_reducible refine(X7.calls ((rd_T80 l0_4 x46_2).f0) ((rd_T80 l0_4 x46_2).f1.f0) ((rd_T80 l0_4 x46_2).f1.f1) ((rd_T80 l0_4 x46_2).f1.f2) ((rd_T80 l0_4 x46_2).f2) ((rd_T80 l0_4 x46_2).f3) ((rd_T80 l0_4 x46_2).f4) ((rd_T80 l0_4 x46_2).f5.f0) _ _ ((rd_T80 l0_4 x46_2).f5.f1) ((rd_T80 l0_4 x46_2).f4) gbz1 A0_0 c0_0 l0_0 A0_1 c0_1 l0_1 A0_2 c0_2 l0_2 a0_3 (some adv1) c0_4 l0_4 A0_5 c0_5 l0_5 A0_6 c0_6 l0_6 a0_7 true _ (rW HRv1 HB HCv1) (rW HR0_0 HB HC0_0) (rW HR0_1 HB HC0_1) (rW HR0_2 HB HC0_2) (rW HR0_4 HB HC0_4) (rW HR0_5 HB HC0_5) (rW HR0_6 HB HC0_6) (by exact(bX BKz1.out)) A40.out).mono ?_);rintro e wv4 ⟨rfl,hb⟩;refine⟨_,rfl,?_⟩;replace BKz1:=aB BKz1 hb;replace BKv1:=aB BKv1 hb;replace HB:=aS HB hb;clear hb)
     go_roundg k2
     case measure=>have:=HJy1.out;have:=HKw1.out;omega
     case rel=>exact⟨(wrap64 (x46_2+1)),rS,H',⟨by have:=HJy1.out;have:=HKw1.out;omega⟩,⟨(bX BKz1.out)⟩,⟨(hX HB.out)⟩⟩
def X0.l0:Nat→List Int→Int→Int→List (S51)→List (S58)→Option ((List (S51)) × (List (S58)) × Bool)
 | 0,_,_,_,_,_=>none
 | k+1,x17,x18,x19,x108000,x108001=>if x19<x18 then (if 0≤x19 then (if x19<(x17.length:Int) then (if x108000.length<5864062014805 then (X0.l0 k x17 x18 (wrap64 (x19+1)) (x108000 ++ [(⟨rd x17 x19,0,0⟩:S51)]) x108001) else (none)) else (none)) else (none)) else ((Xy.f k x108000 x108001).bind fun t115=>(if t115=true then (some (x108000,x108001,true)) else (some (([]:List (S51)),([]:List (S58)),false))))
def X0.f (k:Nat) (l0_0:List Int) (a0_1:Int) (a1:Int):Option ((List (S51)) × (List (S58)) × Bool):=(Xe.f a1 1 4).bind fun t103=>(if t103=true then (if 0≤a1 then (if (a1:Int).toNat≤3909374676536 then ((XK.f k l0_0 a0_1).bind fun t108=>(X0.l0 k t108 (t108.length:Int) 0 ([]:List (S51)) (List.replicate (a1:Int).toNat z58))) else (none)) else (none)) else (some (([]:List (S51)),([]:List (S58)),false)))
theorem X0.calls (k:Nat) (A0_0:Option Addr) (c0_0:Nat) (l0_0:List Int) (a0_1:Int) (a1:Int) (r1:List (S51)) (r2:List (S58)) (r3:Bool) (w:World) (h0_0:Rw (Kd.int .i64) w A0_0 c0_0 l0_0) (h:X0.f k l0_0 a0_1 a1=some (r1,r2,r3)) :
  Calls Tryz.prog 18 #[.agg #[.slice A0_0 l0_0.length c0_0,.int .i64 a0_1],.int .i64 a1] w fun e w'=>∃ v0_ v1_:Value,e = .returned (.tuple #[.agg #[v0_,v1_],.bool r3])∧Kd.R k51 51 w' w.heap.size (fun _=>True) v0_ r1∧Kd.S k58 58 w' w.heap.size (fun _=>True) v1_ r2∧Below w.heap.size w w':=by
 have hu26:=Tryz.underlying26
 have hu33:=Tryz.underlying33
 have hu51:=Tryz.underlying51
 obtain⟨HR0_0,HC0_0⟩:=h0_0
 have HB:=aM (Below.refl w.heap.size w)
 have H:=h
 unfold X0.f at H
 clear h
 replace H:=bE H;obtain⟨t103,A3,H⟩:=H
 go_enter Tryz.func18,Tryz.ntmps18
 go_wp2_with (first | (refine boxE 2 #[.slice A0_0 l0_0.length c0_0,.int .i64 a0_1] 26 ?_;intro gbz1 hg wz1 hbox hb;have BKz1:=aM (hbox);have GWz1:=aG hg HB;replace HB:=aS HB hb;clear hb hbox hg) | (refine boxE 4 #[.slice none 0 0,.slice none 0 0] 33 ?_;intro gbz2 hg wz2 hbox hb;have BKz2:=aM (hbox);have GWz2:=aG hg HB;have NBz1:=aL hg BKz1;have NBz2:=aR hg BKz1;replace BKz1:=aB BKz1 hb;replace HB:=aS HB hb;clear hb hbox hg;refine Stop.out ?_))
 refine⟨?_⟩
 cases t103
 case false =>
  rw[if_neg nft] at H
  simp only[Option.some.injEq,Prod.mk.injEq] at H
  obtain⟨rfl,rfl,rfl⟩:=H
  go_wp2_with ((with_reducible refine gate_callee (f:=88) rfl ?_);refine gD 88 10 Tryz.func88 (Xe.calls _ _ _ _ _ A3.out) ?_;intro nd;(try (rw[drewN_self wz2];generalize hq_:World.drewN wz2 _=wz2;have nz1:Aside0 (wz2.heap[gbz1]? = some (.cells #[.slice A0_0 l0_0.length c0_0,.int .i64 a0_1] 26 (0,0))):=⟨by rw[← hq_];exact(bX BKz1.out)⟩;have nz2:Aside0 (wz2.heap[gbz2]? = some (.cells #[.slice none 0 0,.slice none 0 0] 33 (0,0))):=⟨by rw[← hq_];exact(bX BKz2.out)⟩;have nz3:Aside0 (Below w.heap.size w wz2):=⟨by rw[← hq_];exact(hX HB.out)⟩;clear BKz1 BKz2 HB hq_;have BKz1:=nz1;have BKz2:=nz2;have HB:=nz3;clear nz1 nz2 nz3));have hnbz1:=NBz2.out;have hncz1:=NBz1.out;have hczz1:=cZ2 BKz2.out)
  refine bodyPost_ret (results_ct rfl _ _ gbz2 33 #[.slice none 0 0,.slice none 0 0] (0,0) _ rfl (bP BKz2.out) Tryz.underlying33 rfl (by kernel_rfl)) rfl ?_
  exact⟨(Value.slice none 0 0),(Value.slice none 0 0),rE,(by first | exact Kd.R_nil _ _ _ _ _ | exact Kd.S_nil _ _ _ _ _ | exact Kd.V_nil _ _ _ _ _ | exact Kd.N_nil _ _ _ _ _ | exact Kd.Q_nil _ _ _ _ _),(by first | exact Kd.R_nil _ _ _ _ _ | exact Kd.S_nil _ _ _ _ _ | exact Kd.V_nil _ _ _ _ _ | exact Kd.N_nil _ _ _ _ _ | exact Kd.Q_nil _ _ _ _ _),(hX HB.out)⟩
 rw[if_pos rfl] at H
 replace H:=ifP H;obtain⟨c5,H⟩:=H
 have c5b0:=eq_true c5
 have c5b1:=decide_eq_true c5
 clear c5
 replace H:=ifP H;obtain⟨c6,H⟩:=H
 have c6b0:=eq_true c6
 have c6b1:=decide_eq_true c6
 clear c6
 obtain⟨y104,hy104⟩:∃ y_:List (S58),y_=(List.replicate (a1:Int).toNat z58):=⟨_,rfl⟩
 replace H:((XK.f k l0_0 a0_1).bind fun t108=>(X0.l0 k t108 (t108.length:Int) 0 ([]:List (S51)) y104))=some (r1,r2,r3):=yH H hy104
 have Ny104:=aM hy104
 clear hy104
 replace H:=bE H;obtain⟨t108,A7,H⟩:=H
 have H':=aM H
 clear H
 go_wp2_with (first | ((with_reducible refine gate_callee (f:=88) rfl ?_);refine gD 88 10 Tryz.func88 (Xe.calls _ _ _ _ _ A3.out) ?_;intro nd;(try (rw[drewN_self wz2];generalize hq_:World.drewN wz2 _=wz2;have nz1:Aside0 (wz2.heap[gbz1]? = some (.cells #[.slice A0_0 l0_0.length c0_0,.int .i64 a0_1] 26 (0,0))):=⟨by rw[← hq_];exact(bX BKz1.out)⟩;have nz2:Aside0 (wz2.heap[gbz2]? = some (.cells #[.slice none 0 0,.slice none 0 0] 33 (0,0))):=⟨by rw[← hq_];exact(bX BKz2.out)⟩;have nz3:Aside0 (Below w.heap.size w wz2):=⟨by rw[← hq_];exact(hX HB.out)⟩;clear BKz1 BKz2 HB hq_;have BKz1:=nz1;have BKz2:=nz2;have HB:=nz3;clear nz1 nz2 nz3))) | ((with_reducible refine gate_dst (N:=14) rfl ?_);refine Kd.S_make k58 _ 58 rfl (N:=14) rfl 31 _ _ rfl a1 rfl rfl Tryz.underlying31 (.agg #[(.int .i64 0),(.int .i64 0),(.slice none 0 0),(.int .i64 0),(.slice none 0 0)]) 72 info58 rfl (by decide) (by omega) z58 (ok:=fun _=>True) (okp:=fun _=>True) (k58_mkM _ _ _ z58 (Kd.R_nil _ _ _ _ _) (Kd.R_nil _ _ _ _ _)) (fun _ hk=>hk) trivial (odA) (Nat.le_trans (Nat.mul_le_mul_right _ (odA:a1.toNat≤3909374676536)) (by omega)) (Below.refl _ _) (Nat.le_refl _) ?_;intro vz1 wz3 hoz1 hb hg_ hnew_;clear hg_ hnew_;(first | rw[← Ny104.out] at hoz1 | (simp only[Int.reduceToNat] at hoz1;rw[← Ny104.out] at hoz1));have HOz1:=aM (Kd.S_lower hoz1 (below_size (hX HB.out)));replace BKz1:=aB BKz1 hb;replace BKz2:=aB BKz2 hb;replace HB:=aS HB hb;clear hb hoz1;obtain⟨Aoz1,coz1,eoz1⟩:=Kd.S_slice HOz1.out;subst eoz1) | (refine boxE 6 #[.slice none 0 0,.slice none 0 0] 33 ?_;intro gbz3 hg wz4 hbox hb;have BKz3:=aM (hbox);have GWz3:=aG hg HB;have NBz3:=aL hg BKz1;have NBz4:=aR hg BKz1;have NBz5:=aL hg BKz2;have NBz6:=aR hg BKz2;replace HOz1:=aT HOz1 hb;replace BKz1:=aB BKz1 hb;replace BKz2:=aB BKz2 hb;replace HB:=aS HB hb;clear hb hbox hg;have hnbz1:=NBz4.out;have hncz1:=NBz3.out;have hnbz2:=nB NBz6 NBz5;have hczz1:=cZ2 BKz3.out;have hnbz3:=nB NBz1 NBz2;have hczz3:=cZ2 BKz1.out) | ((with_reducible refine gate_callee (f:=41) rfl ?_);refine goesM 41 17 Tryz.func41 #[.agg #[.slice A0_0 l0_0.length c0_0,.int .i64 a0_1]] ?_;refine(XK.calls k _ _ l0_0 a0_1 t108 _ (rW HR0_0 HB HC0_0) A7.out).mono ?_;rintro e wz5 ⟨vz2,rfl,hoz2,hb⟩;refine⟨_,rfl,?_⟩;have HOz2:=aM (Kd.R_lower hoz2 (below_size (hX HB.out)));replace HOz1:=aM (Kd.S_elder' (sF HOz1.out BKz3.out) (Kd.R_base hoz2) hb);replace BKz1:=aF BKz1 hb;replace BKz2:=aF BKz2 hb;replace BKz3:=aM (blk_below (g:=gbz3) (o:=.cells #[.slice none 0 0,.slice Aoz1 y104.length coz1] 33 (0,0)) (bP BKz3.out) hb);replace HB:=aS HB hb;clear hb hoz2;obtain⟨Aoz2,coz2,eoz2⟩:=Kd.R_slice HOz2.out;subst eoz2))
 go_loopg [19] k (fun kq v19 w'=>∃ (x19_1:Int) (x108000_1:List (S51)) (u108000:Value),v19 = .int .i64 x19_1∧Aside0 (X0.l0 kq t108 (t108.length:Int) x19_1 x108000_1 y104=some (r1,r2,r3))∧Aside0 (kq≤k)∧Aside0 (Kd.R (Kd.int .i64) 3 w' w.heap.size (fun _=>True) (.slice Aoz2 t108.length coz2) t108)∧Aside0 (Kd.R k51 51 w' w.heap.size (fun _=>True) u108000 x108000_1)∧Aside0 (Kd.S k58 58 w' w.heap.size (fun k_=>some k_ ≠ ((.slice Aoz2 t108.length coz2):Value).ownBlock) (.slice Aoz1 y104.length coz1) y104)∧Aside0 (w'.heap[gbz1]? = some (.cells #[(.slice A0_0 l0_0.length c0_0),.int .i64 a0_1] 26 (0,0)))∧Aside0 (w'.heap[gbz2]? = some (.cells #[(.slice none 0 0),(.slice none 0 0)] 33 (0,0)))∧Aside0 (w'.heap[gbz3]? = some (.cells #[u108000,(.slice Aoz1 y104.length coz1)] 33 (0,0)))∧Aside0 (Below w.heap.size w w'))
 case atStart=>exact⟨(0),(([]:List (S51))),(.slice none 0 0),rS,H',⟨Nat.le_refl _⟩,⟨(rX HOz2.out)⟩,⟨by first | exact Kd.R_nil _ _ _ _ _ | exact Kd.N_nil _ _ _ _ _ | exact Kd.V_nil _ _ _ _ _ | exact Kd.Q_nil _ _ _ _ _ | exact Kd.S_nil _ _ _ _ _⟩,⟨by (with_reducible repeat (first | apply Kd.S_alloc | apply Kd.S_drewN | apply Kd.S_drew));exact Kd.S_mono HOz1.out (fun _ hk=>hk.2)⟩,⟨(bX BKz1.out)⟩,⟨(bX BKz2.out)⟩,⟨(bX BKz3.out)⟩,⟨(hX HB.out)⟩⟩
 case round =>
  clear H'
  try clear c5
  try clear c5b0
  try clear c5b1
  try clear c6
  try clear c6b0
  try clear c6b1
  try clear hczz1
  try clear hczz3
  obtain⟨x19_1,x108000_1,u108000,rfl,HA,HKy1,HO_y1,HO_y2,HO_y3,BKz1,BKz2,BKz3,HB⟩:=hrel
  cases gk with
  | zero=>exact absurd HA.out (by simp[X0.l0])
  | succ k1 =>
   have H:=HA.out
   clear HA
   simp only[X0.l0] at H
   revert H;refine iP ?_ ?_<;>intro c21b0 H
   ·replace H:=ifP H;obtain⟨c22,H⟩:=H
    have c22b0:=decide_eq_true c22
    clear c22
    replace H:=ifQ H;obtain⟨c23b0,H⟩:=H
    replace H:=ifP H;obtain⟨c24,H⟩:=H
    have LMc24:=aM c24
    clear c24
    obtain⟨y112,hy112⟩:∃ y_:List (S51),y_=(x108000_1 ++ [(⟨rd t108 x19_1,0,0⟩:S51)]):=⟨_,rfl⟩
    replace H:(X0.l0 k1 t108 (t108.length:Int) (wrap64 (x19_1+1)) y112 y104)=some (r1,r2,r3):=yH H hy112
    have Ny112:=aM hy112
    clear hy112
    have H':=aM H
    clear H
    have px1:0≤(x19_1:Int):=odA
    have qx1:x19_1<(t108.length:Int):=odA
    obtain⟨adx1,ex1,hxx1⟩:=Kd.at_int (Kd.R_reads' HO_y1.out).2.2 x19_1 px1 qx1
    cases ex1
    replace px1:=eq_true px1
    replace qx1:=eq_true qx1
    have hnbx1:=NBz4.out
    have hncx1:=NBz3.out
    have hnbx2:=NBz6.out
    have hncx2:=NBz5.out
    have hczx1:=cZ2 BKz3.out
    go_wp2_with ((with_reducible refine gate_builtin (b:=.append) (xs:=#[.tmp 24,.tmp 27]) rfl ?_);at_builtin;refine Kd.R_append k51 (w0:=w) w.heap.size rfl (.tmp 24) (.tmp 27) 30 51 (.agg #[(.int .i64 0),(.int .i64 0),(.int .i64 0)]) 24 rfl Tryz.underlying30 info51 rfl (by decide) (by omega) u108000 x108000_1 (⟨rd t108 x19_1,0,0⟩:S51) [.int .i64 (rd t108 x19_1),.int .i64 0,.int .i64 0] (fun _=>True) (fun _=>False) rfl rfl ?aP (fun _ hk=>hk.elim) ?aF ?aO ?aB ?aS ?aL ?_;(case aP=>exact k51_mkM _ _ _ (⟨rd t108 x19_1,0,0⟩:S51));(case aB=>exact(hX HB.out));(case aF=>exact(fun _ _=>trivial));(case aO=>exact(rX HO_y2.out));(case aS=>exact(below_size (hX HB.out)));(case aL=>have:=LMc24.out;omega);intro vx1 wx1 ho hb hg hat;rw[← Ny112.out] at ho;have HOx1:=aM (ho);replace HO_y1:=aM (Kd.R_over' (rX HO_y1.out) (Kd.R_typed (rX HO_y2.out)) (by decide) hg);replace HO_y3:=aM (Kd.S_over' (sX HO_y3.out) (Kd.R_typed (rX HO_y2.out)) (by decide) hg);replace BKz1:=aM (blk_grown (g:=gbz1) (o:=.cells #[.slice A0_0 l0_0.length c0_0,.int .i64 a0_1] 26 (0,0)) (bX BKz1.out) hg (Kd.R_ne HO_y2.out BKz1.out (by decide)));replace BKz2:=aM (blk_grown (g:=gbz2) (o:=.cells #[.slice none 0 0,.slice none 0 0] 33 (0,0)) (bX BKz2.out) hg (Kd.R_ne HO_y2.out BKz2.out (by decide)));replace BKz3:=aM (blk_grown (g:=gbz3) (o:=.cells #[u108000,.slice Aoz1 y104.length coz1] 33 (0,0)) (bX BKz3.out) hg (Kd.R_ne HO_y2.out BKz3.out (by decide)));replace HB:=aM (hb);clear HO_y2;clear ho hb hg hat;obtain⟨Aox1,cox1,eox1⟩:=Kd.R_slice HOx1.out;subst eox1;have hczx3:=cZ2 BKz3.out)
    go_roundg k1
    case measure=>have:=HKy1.out;omega
    case rel=>exact⟨(wrap64 (x19_1+1)),(y112),(.slice Aox1 y112.length cox1),rS,H',⟨by have:=HKy1.out;omega⟩,⟨(Kd.R_mono (rF HO_y1.out BKz3.out) (fun _ hk=>trivial))⟩,⟨(Kd.R_mono (rF HOx1.out BKz3.out) (fun _ hk=>trivial))⟩,⟨by (with_reducible repeat (first | apply Kd.S_alloc | apply Kd.S_drewN | apply Kd.S_drew));exact Kd.S_mono (sF HO_y3.out BKz3.out) (fun _ hk=>hk)⟩,⟨(bF BKz1.out)⟩,⟨(bF BKz2.out)⟩,⟨(bP BKz3.out)⟩,⟨(hX HB.out)⟩⟩
   replace H:=bE H;obtain⟨t115,A31,H⟩:=H
   cases t115
   case false =>
    rw[if_neg nft] at H
    simp only[Option.some.injEq,Prod.mk.injEq] at H
    obtain⟨rfl,rfl,rfl⟩:=H
    have hnbx1:=NBz4.out
    have hncx1:=NBz3.out
    have hnbx2:=NBz6.out
    have hncx2:=NBz5.out
    have hczx1:=cZ2 BKz3.out
    obtain⟨Aox1,cox1,eox1⟩:=Kd.R_slice HO_y2.out
    subst eox1
    go_wp2_with ((with_reducible refine gate_callee (f:=29) rfl ?_);refine gB 29 32 Tryz.func29 (Xy.calls _ _ _ _ _ _ _ _ _ (rw2 (cX (Kd.R_reads' HO_y2.out).2.2) ((Kd.R_reads' HO_y2.out).2.1)) (rw2 (cX (Kd.S_reads' HO_y3.out).2.2) ((Kd.S_reads' HO_y3.out).2.1)) A31.out) ?_;intro wx1 hb;replace HO_y1:=aQ HO_y1 hb;replace HO_y2:=aQ HO_y2 hb;replace HO_y3:=aT HO_y3 hb;replace BKz1:=aB BKz1 hb;replace BKz2:=aB BKz2 hb;replace BKz3:=aB BKz3 hb;replace HB:=aS HB hb;clear hb;have hnbx3:=NBz2.out;have hncx3:=NBz1.out;have hczx3:=cZ2 BKz2.out)
    refine bodyPost_ret (results_ct rfl _ _ gbz2 33 #[.slice none 0 0,.slice none 0 0] (0,0) _ rfl (bP BKz2.out) Tryz.underlying33 rfl (by kernel_rfl)) rfl ?_
    exact⟨(Value.slice none 0 0),(Value.slice none 0 0),rE,(by first | exact Kd.R_nil _ _ _ _ _ | exact Kd.S_nil _ _ _ _ _ | exact Kd.V_nil _ _ _ _ _ | exact Kd.N_nil _ _ _ _ _ | exact Kd.Q_nil _ _ _ _ _),(by first | exact Kd.R_nil _ _ _ _ _ | exact Kd.S_nil _ _ _ _ _ | exact Kd.V_nil _ _ _ _ _ | exact Kd.N_nil _ _ _ _ _ | exact Kd.Q_nil _ _ _ _ _),(hX HB.out)⟩
   rw[if_pos rfl] at H
   simp only[Option.some.injEq,Prod.mk.injEq] at H
   obtain⟨rfl,rfl,rfl⟩:=H
   have hnbx1:=NBz4.out
   have hncx1:=NBz3.out
   have hnbx2:=NBz6.out
   have hncx2:=NBz5.out
   have hczx1:=cZ2 BKz3.out
   obtain⟨Aox1,cox1,eox1⟩:=Kd.R_slice HO_y2.out
   subst eox1
   go_wp2_with ((with_reducible refine gate_callee (f:=29) rfl ?_);refine gB 29 32 Tryz.func29 (Xy.calls _ _ _ _ _ _ _ _ _ (rw2 (cX (Kd.R_reads' HO_y2.out).2.2) ((Kd.R_reads' HO_y2.out).2.1)) (rw2 (cX (Kd.S_reads' HO_y3.out).2.2) ((Kd.S_reads' HO_y3.out).2.1)) A31.out) ?_;intro wx1 hb;replace HO_y1:=aQ HO_y1 hb;replace HO_y2:=aQ HO_y2 hb;replace HO_y3:=aT HO_y3 hb;replace BKz1:=aB BKz1 hb;replace BKz2:=aB BKz2 hb;replace BKz3:=aB BKz3 hb;replace HB:=aS HB hb;clear hb;have hczx3:=cZ2 BKz3.out;have hnbx3:=NBz2.out;have hncx3:=NBz1.out;have hczx5:=cZ2 BKz2.out)
   refine bodyPost_ret (results_ct rfl _ _ gbz2 33 #[.slice Aox1 x108000_1.length cox1,.slice Aoz1 y104.length coz1] (0,0) _ rfl (bP BKz2.out) Tryz.underlying33 rfl (by kernel_rfl)) rfl ?_
   exact⟨_,_,rE,(Kd.R_mono (rF HO_y2.out BKz2.out) (fun _ hk=>trivial)),by (with_reducible repeat (first | apply Kd.S_alloc | apply Kd.S_drewN | apply Kd.S_drew));exact Kd.S_mono (sF HO_y3.out BKz2.out) (fun _ hk=>trivial),(hX HB.out)⟩
end Go.Proofs.YthejoblnfpaojaaGreat.P
