/- A part of the proof of the law FnStarts: texts of this seat, merged (words, printed functions of the program, plain lemmas). Conditions: none of its own. -/
import Derived.Test.YthejoblnfpaojaaGreatPkFnStarts16
import Derived.Test.YthejoblnfpaojaaGreatPkFnStarts17
import Derived.Test.YthejoblnfpaojaaGreatPkFnStarts19
import Derived.Test.YthejoblnfpaojaaGreatPkFnStarts20
import Derived.Test.YthejoblnfpaojaaGreatPkFnStarts21
set_option linter.unusedSimpArgs false
set_option linter.unusedVariables false
set_option maxHeartbeats 8000000
set_option maxRecDepth 100000
namespace Go.Proofs.YthejoblnfpaojaaGreat.P
open Go.Proofs.YthejoblnfpaojaaGreatZ Go.RowKit Go.Proofs.YthejoblnfpaojaaGreatW.PrintWords Go.Proofs.YthejoblnfpaojaaGreatW.PrintLast Go.Proofs.YthejoblnfpaojaaGreatW.PrintMore
attribute [local go_sem] max2_int min2_int max_two min_two max_three min_three max_four min_four   -- for this text's walks alone
mutual
def Xd.j0:Nat→Int→Bool→List (S78)→Int→Bool→List (S152)→List (S154)→Option (Bool)
 | 0,_,_,_,_,_,_,_=>none
 | k+1,x1,x60,x102000,x102001,x102002,x102003,x102004=>if x60=true then (some false) else (Xd.l0 k x1 0 x102000 x102001 x102002 x102003 x102004)
def Xd.l0:Nat→Int→Int→List (S78)→Int→Bool→List (S152)→List (S154)→Option (Bool)
 | 0,_,_,_,_,_,_,_=>none
 | k+1,x1,x5,x102000,x102001,x102002,x102003,x102004=>if x5<(x102000.length:Int) then (if 0≤x5 then ((XS.f k ((rd_T78 x102000 x5).f0) ((rd_T78 x102000 x5).f1) ((rd_T78 x102000 x5).f2)).bind fun t104=>(if t104=true then (Xd.l0 k x1 (wrap64 (x5+1)) x102000 x102001 x102002 x102003 x102004) else (some false))) else (none)) else (Xd.l1 k x1 0 x102000 x102001 x102002 x102003 x102004)
def Xd.l1:Nat→Int→Int→List (S78)→Int→Bool→List (S152)→List (S154)→Option (Bool)
 | 0,_,_,_,_,_,_,_=>none
 | k+1,x1,x6,x102000,x102001,x102002,x102003,x102004=>if x6<(x102003.length:Int) then (if 0≤x6 then ((Xb.f ((rd_T152 x102003 x6).f0) 0 19).bind fun t106=>(if t106=true then ((Xb.f ((rd_T152 x102003 x6).f1) 0 1000).bind fun t108=>(if t108=true then (Xd.l1 k x1 (wrap64 (x6+1)) x102000 x102001 x102002 x102003 x102004) else (some false))) else (some false))) else (none)) else (Xd.l2 k x1 0 x102000 x102001 x102002 x102003 x102004)
def Xd.l2:Nat→Int→Int→List (S78)→Int→Bool→List (S152)→List (S154)→Option (Bool)
 | 0,_,_,_,_,_,_,_=>none
 | k+1,x1,x7,x102000,x102001,x102002,x102003,x102004=>if x7<(x102004.length:Int) then (if 0≤x7 then (if ((rd_T154 x102004 x7).f0)<0 then (some false) else (if ((rd_T154 x102004 x7).f0) ≥ x1 then (some false) else ((Xb.f ((rd_T154 x102004 x7).f1) 1 1000000).bind fun t111=>(if t111=true then ((Xb.f ((rd_T154 x102004 x7).f2) 0 20).bind fun t112=>(if t112=true then ((Xb.f ((rd_T154 x102004 x7).f3) 0 20).bind fun t113=>(if t113=true then (Xd.l2 k x1 (wrap64 (x7+1)) x102000 x102001 x102002 x102003 x102004) else (some false))) else (some false))) else (some false))))) else (none)) else (some true)
end
def Xd.f (k:Nat) (l0_0:List (S78)) (a0_1:Int) (a0_2:Bool) (l0_3:List (S152)) (l0_4:List (S154)) (a1:Int):Option (Bool):=if (l0_0.length:Int) > 8 then (Xd.j0 k a1 true l0_0 a0_1 a0_2 l0_3 l0_4) else ((Xb.f a0_1 0 (l0_0.length:Int)).bind fun t102=>(if t102=true then (if a0_2=true then (if a0_1 ≥ (l0_0.length:Int) then (Xd.j0 k a1 true l0_0 a0_1 a0_2 l0_3 l0_4) else (if (l0_3.length:Int) > 12 then (Xd.j0 k a1 true l0_0 a0_1 a0_2 l0_3 l0_4) else (Xd.j0 k a1 (decide ((l0_4.length:Int) > 2)) l0_0 a0_1 a0_2 l0_3 l0_4))) else (if (wrap64 ((l0_3.length:Int)+(l0_4.length:Int))) > 0 then (Xd.j0 k a1 true l0_0 a0_1 a0_2 l0_3 l0_4) else (if (l0_3.length:Int) > 12 then (Xd.j0 k a1 true l0_0 a0_1 a0_2 l0_3 l0_4) else (Xd.j0 k a1 (decide ((l0_4.length:Int) > 2)) l0_0 a0_1 a0_2 l0_3 l0_4)))) else (Xd.j0 k a1 true l0_0 a0_1 a0_2 l0_3 l0_4)))
theorem Xd.calls (k:Nat) (A0_0:Option Addr) (c0_0:Nat) (l0_0:List (S78)) (a0_1:Int) (a0_2:Bool) (A0_3:Option Addr) (c0_3:Nat) (l0_3:List (S152)) (A0_4:Option Addr) (c0_4:Nat) (l0_4:List (S154)) (a1:Int) (r:Bool) (w:World) (h0_0:Rw k78 w A0_0 c0_0 l0_0) (h0_3:Rw k152 w A0_3 c0_3 l0_3) (h0_4:Rw k154 w A0_4 c0_4 l0_4) (H:Xd.f k l0_0 a0_1 a0_2 l0_3 l0_4 a1=some r) :
  Calls Tryz.prog 147 #[.agg #[.slice A0_0 l0_0.length c0_0,.int .i64 a0_1,.bool a0_2,.slice A0_3 l0_3.length c0_3,.slice A0_4 l0_4.length c0_4],.int .i64 a1] w fun e w'=>e = .returned (.bool r)∧Below w.heap.size w w':=by
 have hu108:=Tryz.underlying108
 have hu78:=Tryz.underlying78
 have hu154:=Tryz.underlying154
 obtain⟨HR0_0,HC0_0⟩:=h0_0
 obtain⟨HR0_3,HC0_3⟩:=h0_3
 obtain⟨HR0_4,HC0_4⟩:=h0_4
 have HB:=aM (Below.refl w.heap.size w)
 unfold Xd.f at H
 have HC3:=aM H
 clear H
 go_enter Tryz.func147,Tryz.ntmps147
 go_upto_region 1 with((with_reducible refine gate_dst (N:=2) rfl ?_);(try (refine gate_guard (by rfl) ?_;dsimp only));refine boxF 2 #[.slice A0_0 l0_0.length c0_0,.int .i64 a0_1,.bool a0_2,.slice A0_3 l0_3.length c0_3,.slice A0_4 l0_4.length c0_4] 108 ?_;intro gbz1 hg wz1 hbox hb;have BKz1:=aM (hbox);have GWz1:=aG hg HB;replace HB:=aS HB hb;clear hb hbox hg)
 (try simp only[Act.put,List.setIfInBounds_toArray,List.set_cons_zero,List.set_cons_succ])
 go_cut [60] (fun vz1 wc=>∃ (kq:Nat) (x60_2:Bool),vz1 = .bool x60_2∧Aside0 (Xd.j0 kq a1 x60_2 l0_0 a0_1 a0_2 l0_3 l0_4=some r)∧Aside0 (kq≤k)∧Aside0 (wc.heap[gbz1]? = some (.cells #[(.slice A0_0 l0_0.length c0_0),.int .i64 a0_1,.bool a0_2,(.slice A0_3 l0_3.length c0_3),(.slice A0_4 l0_4.length c0_4)] 108 (0,0)))∧Aside0 (Below w.heap.size w wc))
 case first =>
  have H:=HC3.out
  clear HC3
  by_cases c5:(l0_0.length:Int) > 8
  ·rw[if_pos c5] at H
   have c5b0:=decide_eq_true c5
   have c5b1:decide (8<l0_0.length)=true:=decide_eq_true (by omega)
   clear c5
   (first | rw[c5b0] | (simp only[i64_w,i32_w];rw[c5b0]) | skip)
   have H':=aM H
   clear H
   have hczy1:=cZ5 BKz1.out
   go_wp2
   go_meet
   case rel=>exact⟨_,(true),rS,H',⟨by first | omega | exact Nat.le_refl _⟩,⟨(bX BKz1.out)⟩,⟨(hX HB.out)⟩⟩
  rw[if_neg c5] at H
  have c5b0:=decide_eq_false c5
  have c5b1:decide (8<l0_0.length)=false:=decide_eq_false (by omega)
  clear c5
  (first | rw[c5b0] | (simp only[i64_w,i32_w];rw[c5b0]) | skip)
  replace H:=bE H;obtain⟨t102,A7,H⟩:=H
  cases t102
  case false =>
   rw[if_neg nft] at H
   have H':=aM H
   clear H
   have hczy1:=cZ5 BKz1.out
   go_wp2_with (go_at_call 95;(with_reducible refine(Xb.calls _ _ _ _ _ A7.out).mono ?_);rintro e w' ⟨rfl,⟨nd,rfl⟩⟩)
   go_meet
   case rel=>exact⟨_,(true),rS,H',⟨by first | omega | exact Nat.le_refl _⟩,⟨(bX BKz1.out)⟩,⟨(hX HB.out)⟩⟩
  rw[if_pos rfl] at H
  have hczy1:=cZ5 BKz1.out
  go_wp2_with (go_at_call 95;(with_reducible refine(Xb.calls _ _ _ _ _ A7.out).mono ?_);rintro e w' ⟨rfl,⟨nd,rfl⟩⟩;refine Stop.out ?_)
  refine⟨?_⟩
  by_cases c9:a0_2=true
  ·subst c9
   rw[if_pos rfl] at H
   revert H;refine iP ?_ ?_<;>intro c10b0 H
   ·have H':=aM H
    clear H
    go_wp2
    go_meet
    case rel=>exact⟨_,(true),rS,H',⟨by first | omega | exact Nat.le_refl _⟩,⟨(bX BKz1.out)⟩,⟨(hX HB.out)⟩⟩
   by_cases c12:(l0_3.length:Int) > 12
   ·rw[if_pos c12] at H
    have c12b0:=decide_eq_true c12
    have c12b1:decide (12<l0_3.length)=true:=decide_eq_true (by omega)
    clear c12
    have H':=aM H
    clear H
    go_wp2
    go_meet
    case rel=>exact⟨_,(true),rS,H',⟨by first | omega | exact Nat.le_refl _⟩,⟨(bX BKz1.out)⟩,⟨(hX HB.out)⟩⟩
   rw[if_neg c12] at H
   have c12b0:=decide_eq_false c12
   have c12b1:decide (12<l0_3.length)=false:=decide_eq_false (by omega)
   clear c12
   have H':=aM H
   clear H
   go_wp2
   go_meet
   case rel=>exact⟨_,(decide ((l0_4.length:Int) > 2)),rS,H',⟨by first | omega | exact Nat.le_refl _⟩,⟨(bX BKz1.out)⟩,⟨(hX HB.out)⟩⟩
  replace c9:=Bool.eq_false_iff.mpr c9
  subst c9
  rw[if_neg nft] at H
  revert H;refine iP ?_ ?_<;>intro c15b0 H
  ·have H':=aM H
   clear H
   go_wp2
   go_meet
   case rel=>exact⟨_,(true),rS,H',⟨by first | omega | exact Nat.le_refl _⟩,⟨(bX BKz1.out)⟩,⟨(hX HB.out)⟩⟩
  by_cases c17:(l0_3.length:Int) > 12
  ·rw[if_pos c17] at H
   have c17b0:=decide_eq_true c17
   have c17b1:decide (12<l0_3.length)=true:=decide_eq_true (by omega)
   clear c17
   have H':=aM H
   clear H
   go_wp2
   go_meet
   case rel=>exact⟨_,(true),rS,H',⟨by first | omega | exact Nat.le_refl _⟩,⟨(bX BKz1.out)⟩,⟨(hX HB.out)⟩⟩
  rw[if_neg c17] at H
  have c17b0:=decide_eq_false c17
  have c17b1:decide (12<l0_3.length)=false:=decide_eq_false (by omega)
  clear c17
  have H':=aM H
  clear H
  go_wp2
  go_meet
  case rel=>exact⟨_,(decide ((l0_4.length:Int) > 2)),rS,H',⟨by first | omega | exact Nat.le_refl _⟩,⟨(bX BKz1.out)⟩,⟨(hX HB.out)⟩⟩
 case rest =>
  clear HC3
  obtain⟨kq,x60_2,rfl,HA,HJy1,BKz1,HB⟩:=hcut
  cases kq with
  | zero=>exact absurd HA.out (by simp[Xd.j0])
  | succ kj2 =>
   have H:=HA.out
   clear HA
   simp only[Xd.j0] at H
   cases x60_2
   case true =>
    rw[if_pos rfl] at H
    exact fR
   rw[if_neg nft] at H
   have H':=aM H
   clear H
   go_wp2
   go_loopg [5] kj2 (fun kq v5 w'=>∃ (x5_2:Int),v5 = .int .i64 x5_2∧Aside0 (Xd.l0 kq a1 x5_2 l0_0 a0_1 a0_2 l0_3 l0_4=some r)∧Aside0 (kq≤kj2)∧Aside0 (w'.heap[gbz1]? = some (.cells #[(.slice A0_0 l0_0.length c0_0),.int .i64 a0_1,.bool a0_2,(.slice A0_3 l0_3.length c0_3),(.slice A0_4 l0_4.length c0_4)] 108 (0,0)))∧Aside0 (Below w.heap.size w w'))
   case atStart=>exact⟨(0),rS,H',⟨Nat.le_refl _⟩,⟨(bX BKz1.out)⟩,⟨(hX HB.out)⟩⟩
   case round =>
    clear H'
    obtain⟨x5_2,rfl,HA,HKw1,BKz1,HB⟩:=hrel
    cases gk with
    | zero=>exact absurd HA.out (by simp[Xd.l0])
    | succ k2 =>
     have H:=HA.out
     clear HA
     simp only[Xd.l0] at H
     revert H;refine iP ?_ ?_<;>intro c22b0 H
     ·replace H:=ifP H;obtain⟨c23,H⟩:=H
      have c23b0:=decide_eq_true c23
      clear c23
      replace H:=bE H;obtain⟨t104,A24,H⟩:=H
      cases t104
      case false =>
       rw[if_neg nft] at H
       obtain rfl:=sI H
       have hczv1:=cZ5 BKz1.out
       obtain⟨adv1,ev1,pv1,qv1,hxv1⟩:=at_T78c HR0_0 HB x5_2
       cases ev1
       go_wp2_with (refine gB 173 73 Tryz.func173 (XS.calls _ _ _ _ _ _ A24.out) ?_;intro wv1 hb;replace BKz1:=aB BKz1 hb;replace HB:=aS HB hb;clear hb)
       go_ret
       exact⟨rE,(hX HB.out)⟩
      rw[if_pos rfl] at H
      have H':=aM H
      clear H
      have hczv1:=cZ5 BKz1.out
      obtain⟨adv1,ev1,pv1,qv1,hxv1⟩:=at_T78c HR0_0 HB x5_2
      cases ev1
      go_wp2_with (refine gB 173 73 Tryz.func173 (XS.calls _ _ _ _ _ _ A24.out) ?_;intro wv1 hb;replace BKz1:=aB BKz1 hb;replace HB:=aS HB hb;clear hb)
      go_roundg k2
      case measure=>have:=HJy1.out;have:=HKw1.out;omega
      case rel=>exact⟨(wrap64 (x5_2+1)),rS,H',⟨by have:=HJy1.out;have:=HKw1.out;omega⟩,⟨(bX BKz1.out)⟩,⟨(hX HB.out)⟩⟩
     have H':=aM H
     clear H
     have hczv1:=cZ5 BKz1.out
     go_wp2
     go_loopg [6] k2 (fun kq v6 w'=>∃ (x6_3:Int),v6 = .int .i64 x6_3∧Aside0 (Xd.l1 kq a1 x6_3 l0_0 a0_1 a0_2 l0_3 l0_4=some r)∧Aside0 (kq≤k2)∧Aside0 (w'.heap[gbz1]? = some (.cells #[(.slice A0_0 l0_0.length c0_0),.int .i64 a0_1,.bool a0_2,(.slice A0_3 l0_3.length c0_3),(.slice A0_4 l0_4.length c0_4)] 108 (0,0)))∧Aside0 (Below w.heap.size w w'))
     case atStart=>exact⟨(0),rS,H',⟨Nat.le_refl _⟩,⟨(bX BKz1.out)⟩,⟨(hX HB.out)⟩⟩
     case round =>
      clear H'
      try clear c22b0
      try clear hczv1
      obtain⟨x6_3,rfl,HA,HKu1,BKz1,HB⟩:=hrel
      cases gk with
      | zero=>exact absurd HA.out (by simp[Xd.l1])
      | succ k3 =>
       have H:=HA.out
       clear HA
       simp only[Xd.l1] at H
       revert H;refine iP ?_ ?_<;>intro c31b0 H
       ·replace H:=ifP H;obtain⟨c32,H⟩:=H
        have c32b0:=decide_eq_true c32
        clear c32
        replace H:=bE H;obtain⟨t106,A33,H⟩:=H
        cases t106
        case false =>
         rw[if_neg nft] at H
         obtain rfl:=sI H
         have hczt1:=cZ5 BKz1.out
         obtain⟨adt1,et1,pt1,qt1,hxt1⟩:=at_T152c HR0_3 HB x6_3
         cases et1
         go_wp2_with (refine gD 95 88 Tryz.func95 (Xb.calls _ _ _ _ _ A33.out) ?_;intro nd)
         go_ret
         exact⟨rE,(hX HB.out)⟩
        rw[if_pos rfl] at H
        replace H:=bE H;obtain⟨t108,A35,H⟩:=H
        have hczt1:=cZ5 BKz1.out
        obtain⟨adt1,et1,pt1,qt1,hxt1⟩:=at_T152c HR0_3 HB x6_3
        cases et1
        go_wp2_with (refine gD 95 88 Tryz.func95 (Xb.calls _ _ _ _ _ A33.out) ?_;intro nd;have pt2:0≤(x6_3:Int):=odA;have qt2:x6_3<(l0_3.length:Int):=odA;obtain⟨adt2,et2,hxt3,hxt4⟩:=at_T152 HR0_3.out x6_3 pt2 qt2;obtain rfl:adt1=adt2:=(by injection et2);replace hxt3:=bc HB.out hxt3;replace hxt4:=bc HB.out hxt4;replace pt2:=eq_true pt2;replace qt2:=eq_true qt2;refine Stop.out ?_)
        refine⟨?_⟩
        cases t108
        case false =>
         rw[if_neg nft] at H
         obtain rfl:=sI H
         go_wp2_with (go_at_call 95;(with_reducible refine(Xb.calls _ _ _ _ _ A35.out).mono ?_);rintro e w' ⟨rfl,⟨nd,rfl⟩⟩)
         go_ret
         exact⟨rE,(hX HB.out)⟩
        rw[if_pos rfl] at H
        have H':=aM H
        clear H
        go_wp2_with (go_at_call 95;(with_reducible refine(Xb.calls _ _ _ _ _ A35.out).mono ?_);rintro e w' ⟨rfl,⟨nd,rfl⟩⟩)
        go_roundg k3
        case measure=>have:=HJy1.out;have:=HKw1.out;have:=HKu1.out;omega
        case rel=>exact⟨(wrap64 (x6_3+1)),rS,H',⟨by have:=HJy1.out;have:=HKw1.out;have:=HKu1.out;omega⟩,⟨(bX BKz1.out)⟩,⟨(hX HB.out)⟩⟩
       have H':=aM H
       clear H
       have hczt1:=cZ5 BKz1.out
       go_wp2
       go_loopg [7] k3 (fun kq v7 w'=>∃ (x7_4:Int),v7 = .int .i64 x7_4∧Aside0 (Xd.l2 kq a1 x7_4 l0_0 a0_1 a0_2 l0_3 l0_4=some r)∧Aside0 (kq≤k3)∧Aside0 (w'.heap[gbz1]? = some (.cells #[(.slice A0_0 l0_0.length c0_0),.int .i64 a0_1,.bool a0_2,(.slice A0_3 l0_3.length c0_3),(.slice A0_4 l0_4.length c0_4)] 108 (0,0)))∧Aside0 (Below w.heap.size w w'))
       case atStart=>exact⟨(0),rS,H',⟨Nat.le_refl _⟩,⟨(bX BKz1.out)⟩,⟨(hX HB.out)⟩⟩
       case round =>
        clear H'
        try clear c22b0
        try clear c31b0
        try clear hczv1
        try clear hczt1
        obtain⟨x7_4,rfl,HA,HKs1,BKz1,HB⟩:=hrel
        cases gk with
        | zero=>exact absurd HA.out (by simp[Xd.l2])
        | succ k4 =>
         have H:=HA.out
         clear HA
         simp only[Xd.l2] at H
         revert H;refine iN ?_ ?_<;>intro c41b0 H
         ·obtain rfl:=sI H
          have hczr1:=cZ5 BKz1.out
          exact fS
         replace H:=ifQ H;obtain⟨c42b0,H⟩:=H
         have hczr1:=cZ5 BKz1.out
         obtain⟨adr1,er1,pr1,qr1,hxr1⟩:=at_T154c HR0_4 HB x7_4
         cases er1
         go_wp2_with ((with_reducible refine gate_dst (N:=8) rfl ?_);(try (refine gate_guard (by rfl) ?_;dsimp only));refine boxF 8 #[.int .i64 0,.int .i64 0,.int .i64 0,.int .i64 0] 154 ?_;intro gbr1 hg wr1 hbox hb;have BKr1:=aM (hbox);have GWr1:=aG hg HB;have NBr1:=aL hg BKz1;have NBr2:=aR hg BKz1;replace BKz1:=aB BKz1 hb;replace HB:=aS HB hb;clear hb hbox hg;have hnbr1:=nB NBr2 NBr1;have hczr6:=cZ4 BKr1.out;refine Stop.out ?_)
         refine⟨?_⟩
         revert H;refine iP ?_ ?_<;>intro c43b0 H
         ·obtain rfl:=sI H
          exact fS
         revert H;refine iP ?_ ?_<;>intro c48b0 H
         ·obtain rfl:=sI H
          exact fS
         replace H:=bE H;obtain⟨t111,A53,H⟩:=H
         cases t111
         case false =>
          rw[if_neg nft] at H
          obtain rfl:=sI H
          go_wp2_with (go_at_call 95;(with_reducible refine(Xb.calls _ _ _ _ _ A53.out).mono ?_);rintro e w' ⟨rfl,⟨nd,rfl⟩⟩)
          go_ret
          exact⟨rE,(hX HB.out)⟩
         rw[if_pos rfl] at H
         replace H:=bE H;obtain⟨t112,A55,H⟩:=H
         go_wp2_with (go_at_call 95;(with_reducible refine(Xb.calls _ _ _ _ _ A53.out).mono ?_);rintro e w' ⟨rfl,⟨nd,rfl⟩⟩;refine Stop.out ?_)
         refine⟨?_⟩
         cases t112
         case false =>
          rw[if_neg nft] at H
          obtain rfl:=sI H
          go_wp2_with (go_at_call 95;(with_reducible refine(Xb.calls _ _ _ _ _ A55.out).mono ?_);rintro e w' ⟨rfl,⟨nd,rfl⟩⟩)
          go_ret
          exact⟨rE,(hX HB.out)⟩
         rw[if_pos rfl] at H
         replace H:=bE H;obtain⟨t113,A57,H⟩:=H
         go_wp2_with (go_at_call 95;(with_reducible refine(Xb.calls _ _ _ _ _ A55.out).mono ?_);rintro e w' ⟨rfl,⟨nd,rfl⟩⟩;refine Stop.out ?_)
         refine⟨?_⟩
         cases t113
         case false =>
          rw[if_neg nft] at H
          obtain rfl:=sI H
          go_wp2_with (go_at_call 95;(with_reducible refine(Xb.calls _ _ _ _ _ A57.out).mono ?_);rintro e w' ⟨rfl,⟨nd,rfl⟩⟩)
          go_ret
          exact⟨rE,(hX HB.out)⟩
         rw[if_pos rfl] at H
         have H':=aM H
         clear H
         go_wp2_with (go_at_call 95;(with_reducible refine(Xb.calls _ _ _ _ _ A57.out).mono ?_);rintro e w' ⟨rfl,⟨nd,rfl⟩⟩)
         go_roundg k4
         case measure=>have:=HJy1.out;have:=HKw1.out;have:=HKu1.out;have:=HKs1.out;omega
         case rel=>exact⟨(wrap64 (x7_4+1)),rS,H',⟨by have:=HJy1.out;have:=HKw1.out;have:=HKu1.out;have:=HKs1.out;omega⟩,⟨(bF BKz1.out)⟩,⟨(hX HB.out)⟩⟩
end Go.Proofs.YthejoblnfpaojaaGreat.P
namespace Go.Proofs.YthejoblnfpaojaaGreat.P
open Go.Proofs.YthejoblnfpaojaaGreatZ Go.RowKit Go.Proofs.YthejoblnfpaojaaGreatW.PrintWords Go.Proofs.YthejoblnfpaojaaGreatW.PrintLast Go.Proofs.YthejoblnfpaojaaGreatW.PrintMore
attribute [local go_sem] max2_int min2_int max_two min_two max_three min_three max_four min_four   -- for this text's walks alone
attribute [local go_sem high] eqA78
mutual
def Xk.l0:Nat→Int→List (S51)→List (S58)→List (S108)→Int→List (S80)→List Int→List Int→Int→List (S51)→List (S58)→List (S108)→Int→List (S80)→List Int→List Int→Int→Option (Bool)
 | 0,_,_,_,_,_,_,_,_,_,_,_,_,_,_,_,_,_=>none
 | k+1,x5,x102000,x102001,x102002,x102003,x102004,x102005,x102006,x102007,x103000,x103001,x103002,x103003,x103004,x103005,x103006,x103007=>if x5<(x102002.length:Int) then (if 0≤x5 then (if x5<(x103002.length:Int) then ((Xo.f k ((rd_T108 x102002 x5).f0) ((rd_T108 x102002 x5).f1) ((rd_T108 x102002 x5).f2) ((rd_T108 x102002 x5).f3) ((rd_T108 x102002 x5).f4) ((rd_T108 x103002 x5).f0) ((rd_T108 x103002 x5).f1) ((rd_T108 x103002 x5).f2) ((rd_T108 x103002 x5).f3) ((rd_T108 x103002 x5).f4)).bind fun t108=>(if t108=true then (Xk.l0 k (wrap64 (x5+1)) x102000 x102001 x102002 x102003 x102004 x102005 x102006 x102007 x103000 x103001 x103002 x103003 x103004 x103005 x103006 x103007) else (none))) else (none)) else (none)) else (Xk.l1 k 0 x102000 x102001 x102002 x102003 x102004 x102005 x102006 x102007)
def Xk.l1:Nat→Int→List (S51)→List (S58)→List (S108)→Int→List (S80)→List Int→List Int→Int→Option (Bool)
 | 0,_,_,_,_,_,_,_,_,_=>none
 | k+1,x6,x102000,x102001,x102002,x102003,x102004,x102005,x102006,x102007=>if x6<(x102004.length:Int) then (none) else (some true)
end
def Xk.f (k:Nat) (l0_0:List (S51)) (l0_1:List (S58)) (l0_2:List (S108)) (a0_3:Int) (l0_4:List (S80)) (l0_5:List Int) (l0_6:List Int) (a0_7:Int) (l1_0:List (S51)) (l1_1:List (S58)) (l1_2:List (S108)) (a1_3:Int) (l1_4:List (S80)) (l1_5:List Int) (l1_6:List Int) (a1_7:Int):Option (Bool):=(Xi.f k l0_0 l0_1 l1_0 l1_1).bind fun t103=>(if t103=true then (if (l0_2.length:Int)=(l1_2.length:Int) then (if a0_3=a1_3 then (if (l0_4.length:Int)=(l1_4.length:Int) then ((XL.f k l0_5 l1_5).bind fun t104=>(if t104=true then ((XL.f k l0_6 l1_6).bind fun t105=>(if t105=true then (if a0_7=a1_7 then (Xk.l0 k 0 l0_0 l0_1 l0_2 a0_3 l0_4 l0_5 l0_6 a0_7 l1_0 l1_1 l1_2 a1_3 l1_4 l1_5 l1_6 a1_7) else (none)) else (none))) else (none))) else (none)) else (none)) else (none)) else (none))
def Xk.T6:Bool × List (List Nat × List Nat):=(true,[([],[]),([0],[0]),([],[]),([1,2],[1,2]),([3],[3]),([],[]),([5],[5]),([],[]),([6,7],[6,7]),([8],[8]),([4,9],[4,9]),([10],[10])])
def Xk.B6:List Nat:=[0,1,0,7,15,0,32,0,224,480,1023,2047]
theorem Xk.tab6:rtab .any (opsOf Tryz.f12 6)=Xk.T6:=by kernel_rfl
theorem Xk.bits6:waitsOk Xk.T6.2 Xk.B6=true:=by kernel_rfl
theorem Xk.calls (k:Nat) (A0_0:Option Addr) (c0_0:Nat) (l0_0:List (S51)) (A0_1:Option Addr) (c0_1:Nat) (l0_1:List (S58)) (A0_2:Option Addr) (c0_2:Nat) (l0_2:List (S108)) (a0_3:Int) (A0_4:Option Addr) (c0_4:Nat) (l0_4:List (S80)) (A0_5:Option Addr) (c0_5:Nat) (l0_5:List Int) (A0_6:Option Addr) (c0_6:Nat) (l0_6:List Int) (a0_7:Int) (A1_0:Option Addr) (c1_0:Nat) (l1_0:List (S51)) (A1_1:Option Addr) (c1_1:Nat) (l1_1:List (S58)) (A1_2:Option Addr) (c1_2:Nat) (l1_2:List (S108)) (a1_3:Int) (A1_4:Option Addr) (c1_4:Nat) (l1_4:List (S80)) (A1_5:Option Addr) (c1_5:Nat) (l1_5:List Int) (A1_6:Option Addr) (c1_6:Nat) (l1_6:List Int) (a1_7:Int) (r:Bool) (w:World) (h0_0:Rw k51 w A0_0 c0_0 l0_0) (h0_1:Rw k58 w A0_1 c0_1 l0_1) (h0_2:Rw k108 w A0_2 c0_2 l0_2) (h0_4:Rw k80 w A0_4 c0_4 l0_4) (h0_5:Rw (Kd.int .i64) w A0_5 c0_5 l0_5) (h0_6:Rw (Kd.int .i64) w A0_6 c0_6 l0_6) (h1_0:Rw k51 w A1_0 c1_0 l1_0) (h1_1:Rw k58 w A1_1 c1_1 l1_1) (h1_2:Rw k108 w A1_2 c1_2 l1_2) (h1_4:Rw k80 w A1_4 c1_4 l1_4) (h1_5:Rw (Kd.int .i64) w A1_5 c1_5 l1_5) (h1_6:Rw (Kd.int .i64) w A1_6 c1_6 l1_6) (H:Xk.f k l0_0 l0_1 l0_2 a0_3 l0_4 l0_5 l0_6 a0_7 l1_0 l1_1 l1_2 a1_3 l1_4 l1_5 l1_6 a1_7=some r) :
  Calls Tryz.prog 12 #[.agg #[.slice A0_0 l0_0.length c0_0,.slice A0_1 l0_1.length c0_1,.slice A0_2 l0_2.length c0_2,.int .i64 a0_3,.slice A0_4 l0_4.length c0_4,.slice A0_5 l0_5.length c0_5,.slice A0_6 l0_6.length c0_6,.int .i64 a0_7],.agg #[.slice A1_0 l1_0.length c1_0,.slice A1_1 l1_1.length c1_1,.slice A1_2 l1_2.length c1_2,.int .i64 a1_3,.slice A1_4 l1_4.length c1_4,.slice A1_5 l1_5.length c1_5,.slice A1_6 l1_6.length c1_6,.int .i64 a1_7]] w fun e w'=>e = .returned (.bool r)∧Below w.heap.size w w':=by
 have hu37:=Tryz.underlying37
 have hu33:=Tryz.underlying33
 have hu108:=Tryz.underlying108
 have hu80:=Tryz.underlying80
 have hu78:=Tryz.underlying78
 have hu56:=Tryz.underlying56
 obtain⟨HR0_0,HC0_0⟩:=h0_0
 obtain⟨HR0_1,HC0_1⟩:=h0_1
 obtain⟨HR0_2,HC0_2⟩:=h0_2
 obtain⟨HR0_4,HC0_4⟩:=h0_4
 obtain⟨HR0_5,HC0_5⟩:=h0_5
 obtain⟨HR0_6,HC0_6⟩:=h0_6
 obtain⟨HR1_0,HC1_0⟩:=h1_0
 obtain⟨HR1_1,HC1_1⟩:=h1_1
 obtain⟨HR1_2,HC1_2⟩:=h1_2
 obtain⟨HR1_4,HC1_4⟩:=h1_4
 obtain⟨HR1_5,HC1_5⟩:=h1_5
 obtain⟨HR1_6,HC1_6⟩:=h1_6
 have HB:=aM (Below.refl w.heap.size w)
 unfold Xk.f at H
 replace H:=bE H;obtain⟨t103,A3,H⟩:=H
 cases t103
 case false =>
  rw[if_neg nft] at H
  exact absurd H (by simp)
 rw[if_pos rfl] at H
 replace H:=ifP H;obtain⟨c5,H⟩:=H
 obtain⟨c5b0,c5b1⟩:=eqT c5
 have c5b2:(l0_2.length == l1_2.length)=true:=by first | simpa using c5 | (simp at c5 ⊢;omega)
 clear c5
 replace H:=ifP H;obtain⟨c6,H⟩:=H
 obtain⟨c6b0,c6b1⟩:=eqT c6
 clear c6
 replace H:=ifP H;obtain⟨c7,H⟩:=H
 obtain⟨c7b0,c7b1⟩:=eqT c7
 have c7b2:(l0_4.length == l1_4.length)=true:=by first | simpa using c7 | (simp at c7 ⊢;omega)
 clear c7
 replace H:=bE H;obtain⟨t104,A8,H⟩:=H
 cases t104
 case false =>
  rw[if_neg nft] at H
  exact absurd H (by simp)
 rw[if_pos rfl] at H
 replace H:=bE H;obtain⟨t105,A10,H⟩:=H
 cases t105
 case false =>
  rw[if_neg nft] at H
  exact absurd H (by simp)
 rw[if_pos rfl] at H
 replace H:=ifP H;obtain⟨c12,H⟩:=H
 obtain⟨c12b0,c12b1⟩:=eqT c12
 clear c12
 have H':=aM H
 clear H
 go_enter Tryz.func12,Tryz.ntmps12
 go_wp2_with (first | ((with_reducible refine gate_dst (N:=2) rfl ?_);(try (refine gate_guard (by rfl) ?_;dsimp only));refine boxF 2 #[.slice A0_0 l0_0.length c0_0,.slice A0_1 l0_1.length c0_1,.slice A0_2 l0_2.length c0_2,.int .i64 a0_3,.slice A0_4 l0_4.length c0_4,.slice A0_5 l0_5.length c0_5,.slice A0_6 l0_6.length c0_6,.int .i64 a0_7] 37 ?_;intro gbz1 hg wz1 hbox hb;have BKz1:=aM (hbox);have GWz1:=aG hg HB;replace HB:=aS HB hb;clear hb hbox hg) | ((with_reducible refine gate_dst (N:=3) rfl ?_);(try (refine gate_guard (by rfl) ?_;dsimp only));refine boxF 3 #[.slice A1_0 l1_0.length c1_0,.slice A1_1 l1_1.length c1_1,.slice A1_2 l1_2.length c1_2,.int .i64 a1_3,.slice A1_4 l1_4.length c1_4,.slice A1_5 l1_5.length c1_5,.slice A1_6 l1_6.length c1_6,.int .i64 a1_7] 37 ?_;intro gbz2 hg wz2 hbox hb;have BKz2:=aM (hbox);have GWz2:=aG hg HB;have NBz1:=aL hg BKz1;have NBz2:=aR hg BKz1;replace BKz1:=aB BKz1 hb;replace HB:=aS HB hb;clear hb hbox hg;have hnbz1:=nB NBz1 NBz2;have hczz1:=cZ8 BKz1.out;have hczz9:=cZ8 BKz2.out) | (refine gB 83 13 Tryz.func83 (Xi.calls _ _ _ _ _ _ _ _ _ _ _ _ _ _ _ (rW HR0_0 HB HC0_0) (rW HR0_1 HB HC0_1) (rW HR1_0 HB HC1_0) (rW HR1_1 HB HC1_1) A3.out) ?_;intro wz3 hb;replace BKz1:=aB BKz1 hb;replace BKz2:=aB BKz2 hb;replace HB:=aS HB hb;clear hb;have hczz17:=cZ8 BKz1.out;have hczz25:=cZ8 BKz2.out) | (go_at_call 16;(with_reducible refine(XL.calls _ _ _ _ _ _ _ _ _ (rW HR0_5 HB HC0_5) (rW HR1_5 HB HC1_5) A8.out).mono ?_);rintro e w' ⟨rfl,⟨nd,rfl⟩⟩) | (go_at_call 16;(with_reducible refine(XL.calls _ _ _ _ _ _ _ _ _ (rW HR0_6 HB HC0_6) (rW HR1_6 HB HC1_6) A10.out).mono ?_);rintro e w' ⟨rfl,⟨nd,rfl⟩⟩))
 go_loopg [5] k (fun kq v5 w'=>∃ (x5_1:Int),v5 = .int .i64 x5_1∧Aside0 (Xk.l0 kq x5_1 l0_0 l0_1 l0_2 a0_3 l0_4 l0_5 l0_6 a0_7 l1_0 l1_1 l1_2 a1_3 l1_4 l1_5 l1_6 a1_7=some r)∧Aside0 (kq≤k)∧Aside0 (w'.heap[gbz1]? = some (.cells #[(.slice A0_0 l0_0.length c0_0),(.slice A0_1 l0_1.length c0_1),(.slice A0_2 l0_2.length c0_2),.int .i64 a0_3,(.slice A0_4 l0_4.length c0_4),(.slice A0_5 l0_5.length c0_5),(.slice A0_6 l0_6.length c0_6),.int .i64 a0_7] 37 (0,0)))∧Aside0 (w'.heap[gbz2]? = some (.cells #[(.slice A1_0 l1_0.length c1_0),(.slice A1_1 l1_1.length c1_1),(.slice A1_2 l1_2.length c1_2),.int .i64 a1_3,(.slice A1_4 l1_4.length c1_4),(.slice A1_5 l1_5.length c1_5),(.slice A1_6 l1_6.length c1_6),.int .i64 a1_7] 37 (0,0)))∧Aside0 (Below w.heap.size w w'))
 case atStart=>exact⟨(0),rS,H',⟨Nat.le_refl _⟩,⟨(bX BKz1.out)⟩,⟨(bX BKz2.out)⟩,⟨(hX HB.out)⟩⟩
 case round =>
  clear H'
  try clear c5
  try clear c5b0
  try clear c5b1
  try clear c5b2
  try clear c6
  try clear c6b0
  try clear c6b1
  try clear c7
  try clear c7b0
  try clear c7b1
  try clear c7b2
  try clear c12
  try clear c12b0
  try clear c12b1
  try clear hczz1
  try clear hczz9
  try clear hczz17
  try clear hczz25
  obtain⟨x5_1,rfl,HA,HKy1,BKz1,BKz2,HB⟩:=hrel
  cases gk with
  | zero=>exact absurd HA.out (by simp[Xk.l0])
  | succ k1 =>
   have H:=HA.out
   clear HA
   simp only[Xk.l0] at H
   revert H;refine iN ?_ ?_<;>intro c21b0 H
   ·have H':=aM H
    clear H
    have hnbx1:=NBz1.out
    have hncx1:=NBz2.out
    have hczx1:=cZ8 BKz1.out
    go_wp2
    go_loopg [6] k1 (fun kq v6 w'=>∃ (x6_2:Int),v6 = .int .i64 x6_2∧Aside0 (Xk.l1 kq x6_2 l0_0 l0_1 l0_2 a0_3 l0_4 l0_5 l0_6 a0_7=some r)∧Aside0 (kq≤k1)∧Aside0 (w'.heap[gbz1]? = some (.cells #[(.slice A0_0 l0_0.length c0_0),(.slice A0_1 l0_1.length c0_1),(.slice A0_2 l0_2.length c0_2),.int .i64 a0_3,(.slice A0_4 l0_4.length c0_4),(.slice A0_5 l0_5.length c0_5),(.slice A0_6 l0_6.length c0_6),.int .i64 a0_7] 37 (0,0)))∧Aside0 (w'.heap[gbz2]? = some (.cells #[(.slice A1_0 l1_0.length c1_0),(.slice A1_1 l1_1.length c1_1),(.slice A1_2 l1_2.length c1_2),.int .i64 a1_3,(.slice A1_4 l1_4.length c1_4),(.slice A1_5 l1_5.length c1_5),(.slice A1_6 l1_6.length c1_6),.int .i64 a1_7] 37 (0,0)))∧Aside0 (Below w.heap.size w w'))
    case atStart=>exact⟨(0),rS,H',⟨Nat.le_refl _⟩,⟨(bX BKz1.out)⟩,⟨(bX BKz2.out)⟩,⟨(hX HB.out)⟩⟩
    case round =>
     clear H'
     try clear c5
     try clear c5b0
     try clear c5b1
     try clear c5b2
     try clear c6
     try clear c6b0
     try clear c6b1
     try clear c7
     try clear c7b0
     try clear c7b1
     try clear c7b2
     try clear c12
     try clear c12b0
     try clear c12b1
     try clear c21b0
     try clear hczz1
     try clear hczz9
     try clear hczz17
     try clear hczz25
     try clear hczx1
     obtain⟨x6_2,rfl,HA,HKw1,BKz1,BKz2,HB⟩:=hrel
     cases gk with
     | zero=>exact absurd HA.out (by simp[Xk.l1])
     | succ k2 =>
      have H:=HA.out
      clear HA
      simp only[Xk.l1] at H
      replace H:=ifN H;obtain⟨c32,H⟩:=H
      have c32b0:=decide_eq_false c32
      clear c32
      obtain rfl:=sI H
      have hnbv1:=nB NBz1 NBz2
      have hczv1:=cZ8 BKz1.out
      exact fS
   replace H:=ifQ H;obtain⟨c22b0,H⟩:=H
   replace H:=ifQ H;obtain⟨c23b0,H⟩:=H
   replace H:=bE H;obtain⟨t108,A24,H⟩:=H
   cases t108
   case false =>
    rw[if_neg nft] at H
    exact absurd H (by simp)
   rw[if_pos rfl] at H
   have H':=aM H
   clear H
   have hnbx1:=NBz1.out
   have hncx1:=NBz2.out
   have hczx1:=cZ8 BKz1.out
   try go_wp2
   obtain⟨adx1,Ax1,cx1,Ax2,cx2,Ax3,cx3,ex1,px1,qx1,hxx1,HCx1,HRx1,HCx2,HRx2,HCx3,HRx3⟩:=at_T108c HR0_2 HB x5_1
   cases ex1
   obtain⟨adx2,Ax4,cx4,Ax5,cx5,Ax6,cx6,ex2,px2,qx2,hxx6,HCx4,HRx4,HCx5,HRx5,HCx6,HRx6⟩:=at_T108c HR1_2 HB x5_1
   cases ex2
   have hcb0_:=cV8 BKz1.out
   have hcb1_:=cV8 BKz2.out
   refine sR0 12 Xk.tab6 Xk.bits6 (fun HT_ HW_ hHeld => ?_)
   refine zA 0 ?_
   refine zA 2 ?_
   refine zA 5 ?_
   refine zA 7 ?_
   refine tA 1 ?_
   refine zA 3 ?_
   refine tA 4 ?_
   refine tA 6 ?_
   refine zA 8 ?_
   refine tA 9 ?_
   refine eB 10 Tryz.func84 (Xo.calls k1 _ _ ((rd_T108 l0_2 x5_1).f0) ((rd_T108 l0_2 x5_1).f1) ((rd_T108 l0_2 x5_1).f2) _ _ ((rd_T108 l0_2 x5_1).f3) _ _ ((rd_T108 l0_2 x5_1).f4) _ _ ((rd_T108 l1_2 x5_1).f0) ((rd_T108 l1_2 x5_1).f1) ((rd_T108 l1_2 x5_1).f2) _ _ ((rd_T108 l1_2 x5_1).f3) _ _ ((rd_T108 l1_2 x5_1).f4) true _ (rW HRx1 HB HCx1) (rW HRx2 HB HCx2) (rW HRx3 HB HCx3) (rW HRx4 HB HCx4) (rW HRx5 HB HCx5) (rW HRx6 HB HCx6) A24.out) (fun wx2 hb hHeld => ?_)
   replace BKz1:=aB BKz1 hb
   replace BKz2:=aB BKz2 hb
   replace HB:=aS HB hb
   (try clear hb)
   refine zA 11 ?_
   refine dA ?_
   try go_wp2
   go_roundg k1
   case measure=>have:=HKy1.out;omega
   case rel=>exact⟨(wrap64 (x5_1+1)),rS,H',⟨by have:=HKy1.out;omega⟩,⟨(bX BKz1.out)⟩,⟨(bX BKz2.out)⟩,⟨(hX HB.out)⟩⟩
end Go.Proofs.YthejoblnfpaojaaGreat.P
namespace Go.Proofs.YthejoblnfpaojaaGreat.P
open Go.Proofs.YthejoblnfpaojaaGreatZ Go.RowKit Go.Proofs.YthejoblnfpaojaaGreatW.PrintWords Go.Proofs.YthejoblnfpaojaaGreatW.PrintLast Go.Proofs.YthejoblnfpaojaaGreatW.PrintMore
attribute [local go_sem] max2_int min2_int max_two min_two max_three min_three max_four min_four   -- for this text's walks alone
def Xac.l0:Nat→Int→Int→List Int→Int→Int→Option (Int)
 | 0,_,_,_,_,_=>none
 | k+1,x1,x5,x9,x10,x11=>if x11<x10 then (if 0≤x11 then (if x11<(x9.length:Int) then ((XQ.f (rd x9 x11)).bind fun t103=>(if t103=true then ((Xat.f (rd x9 x11)).bind fun t104=>(if t104=x1 then (Xac.l0 k x1 (wrap64 (x5+1)) x9 x10 (wrap64 (x11+1))) else (Xac.l0 k x1 x5 x9 x10 (wrap64 (x11+1))))) else (Xac.l0 k x1 x5 x9 x10 (wrap64 (x11+1))))) else (none)) else (none)) else (some x5)
def Xac.f (k:Nat) (l0_0:List Int) (a0_1:Int) (a1:Int):Option (Int):=Xac.l0 k a1 0 l0_0 (l0_0.length:Int) 0
theorem Xac.calls (k:Nat) (A0_0:Option Addr) (c0_0:Nat) (l0_0:List Int) (a0_1:Int) (a1:Int) (r:Int) (w:World) (h0_0:Rw (Kd.int .i64) w A0_0 c0_0 l0_0) (H:Xac.f k l0_0 a0_1 a1=some r) :
  Calls Tryz.prog 199 #[.agg #[.slice A0_0 l0_0.length c0_0,.int .i64 a0_1],.int .i64 a1] w fun e w'=>e = .returned (.int .i64 r)∧Below w.heap.size w w':=by
 have hu26:=Tryz.underlying26
 obtain⟨HR0_0,HC0_0⟩:=h0_0
 have HB:=aM (Below.refl w.heap.size w)
 unfold Xac.f at H
 have H':=aM H
 clear H
 go_enter Tryz.func199,Tryz.ntmps199
 go_wp2_with (refine boxE 2 #[.slice A0_0 l0_0.length c0_0,.int .i64 a0_1] 26 ?_;intro gbz1 hg wz1 hbox hb;have BKz1:=aM (hbox);have GWz1:=aG hg HB;replace HB:=aS HB hb;clear hb hbox hg;have hczz1:=cZ2 BKz1.out)
 go_loopg [5,11] k (fun kq v5 v11 w'=>∃ (x5_1:Int) (x11_1:Int),v5 = .int .i64 x5_1∧v11 = .int .i64 x11_1∧Aside0 (Xac.l0 kq a1 x5_1 l0_0 (l0_0.length:Int) x11_1=some r)∧Aside0 (kq≤k)∧Aside0 (w'.heap[gbz1]? = some (.cells #[(.slice A0_0 l0_0.length c0_0),.int .i64 a0_1] 26 (0,0)))∧Aside0 (Below w.heap.size w w'))
 case atStart=>exact⟨(0),(0),rS,rS,H',⟨Nat.le_refl _⟩,⟨(bX BKz1.out)⟩,⟨(hX HB.out)⟩⟩
 case round =>
  clear H'
  try clear hczz1
  obtain⟨x5_1,x11_1,rfl,rfl,HA,HKy1,BKz1,HB⟩:=hrel
  cases gk with
  | zero=>exact absurd HA.out (by simp[Xac.l0])
  | succ k1 =>
   have H:=HA.out
   clear HA
   simp only[Xac.l0] at H
   revert H;refine iN ?_ ?_<;>intro c5b0 H
   ·obtain rfl:=sI H
    exact fS
   replace H:=ifQ H;obtain⟨c6b0,H⟩:=H
   replace H:=ifQ H;obtain⟨c7b0,H⟩:=H
   replace H:=bE H;obtain⟨t103,A8,H⟩:=H
   cases t103
   case false =>
    rw[if_neg nft] at H
    have H':=aM H
    clear H
    obtain⟨adx1,ex1,px1,qx1,hxx1⟩:=at_ic HR0_0 HB x11_1
    cases ex1
    go_wp2_with (refine gD 136 16 Tryz.func136 (XQ.calls _ _ _ A8.out) ?_;intro nd)
    go_roundg k1
    case measure=>have:=HKy1.out;omega
    case rel=>exact⟨(x5_1),(wrap64 (x11_1+1)),rS,rS,H',⟨by have:=HKy1.out;omega⟩,⟨(bX BKz1.out)⟩,⟨(hX HB.out)⟩⟩
   rw[if_pos rfl] at H
   replace H:=bE H;obtain⟨t104,A10,H⟩:=H
   obtain⟨adx1,ex1,px1,qx1,hxx1⟩:=at_ic HR0_0 HB x11_1
   cases ex1
   go_wp2_with (first | (refine gD 136 16 Tryz.func136 (XQ.calls _ _ _ A8.out) ?_;intro nd) | (go_at_call 109;(with_reducible refine(Xat.calls _ _ _ A10.out).mono ?_);rintro e w' ⟨rfl,⟨nd,rfl⟩⟩;refine Stop.out ?_))
   refine⟨?_⟩
   revert H;refine eN ?_ ?_<;>intro c11b0 c11b1 H
   ·have H':=aM H
    clear H
    go_wp2
    go_roundg k1
    case measure=>have:=HKy1.out;omega
    case rel=>exact⟨(x5_1),(wrap64 (x11_1+1)),rS,rS,H',⟨by have:=HKy1.out;omega⟩,⟨(bX BKz1.out)⟩,⟨(hX HB.out)⟩⟩
   have H':=aM H
   clear H
   go_wp2
   go_roundg k1
   case measure=>have:=HKy1.out;omega
   case rel=>exact⟨(wrap64 (x5_1+1)),(wrap64 (x11_1+1)),rS,rS,H',⟨by have:=HKy1.out;omega⟩,⟨(bX BKz1.out)⟩,⟨(hX HB.out)⟩⟩
def XT.f (s0_0:List Int) (s0_1:Int) (s0_2:Int) (l1:List Int):Option (Int × Int × Int):=(Xj.f s0_0 s0_1 s0_2 (l1.length:Int)).bind fun bt101=>(if 0≤bt101.1 then (if bt101.1<(l1.length:Int) then (some (rd l1 bt101.1,bt101.2.1,bt101.2.2)) else (none)) else (none))
theorem XT.calls (g:Nat) (s0_0:List Int) (s0_1:Int) (s0_2:Int) (A1:Option Addr) (c1:Nat) (l1:List Int) (r1:Int) (r2:Int) (r3:Int) (w0 w:World) (hI:IsS146 w0 w g s0_0 s0_1 s0_2) (hB:Below w0.heap.size w0 w) (h1:Rw (Kd.int .i64) w A1 c1 l1) (hf1:∀ ad,A1=some ad→0<l1.length→ad.block ≠ g) (H:XT.f s0_0 s0_1 s0_2 l1=some (r1,r2,r3)) :
  Calls Tryz.prog 97 #[.pointer (some ⟨g,0,none⟩),.slice A1 l1.length c1] w fun e w'=>e = .returned (.int .i64 r1)∧IsS146 w0 w' g s0_0 r2 r3∧Below w0.heap.size w0 w'∧KeepBut w w' g none:=by
 obtain⟨HR1,HC1⟩:=h1
 have HI0:=aM hI
 have HK:=aM (KeepBut.refl w g none)
 have HL:=aM hB.size
 clear hI
 have HW0:=aM hB.size
 have HB:=aM hB
 clear hB
 unfold XT.f at H
 replace H:=bE H;obtain⟨⟨t101,t102,t103⟩,A3,H⟩:=H
 try dsimp only at H
 replace H:=ifQ H;obtain⟨c4b0,H⟩:=H
 replace H:=ifQ H;obtain⟨c5b0,H⟩:=H
 simp only[Option.some.injEq,Prod.mk.injEq] at H
 obtain⟨rfl,rfl,rfl⟩:=H
 go_enter Tryz.func97,Tryz.ntmps97
 go_wp2_with (refine goesM 76 9 Tryz.func76 #[.pointer (some ⟨g,0,none⟩),.int .i64 (l1.length:Int)] ?_;refine(Xj.calls g s0_0 s0_1 s0_2 (l1.length:Int) t101 t102 t103 w0 _ (by repeat (first | (with_reducible first | exact HI0.out | apply IsS146.alloc | apply IsS146.drewN | apply IsS146.drew | apply IsS146.set_1 | apply IsS146.set_2) | exact HI0.out)) (by repeat (first | (with_reducible first | exact HB.out | apply below_alloc | apply pw_below_drewN | apply below_drew1 | refine below_set ?_ (IsS146.ge HI0.out)) | exact HB.out)) A3.out).mono ?_;rintro e wz1 ⟨rfl,hi,hb,hk⟩;refine⟨_,rfl,?_⟩;replace HK:=aM (KeepBut.trans (kX HK.out) hk (.inl rfl));replace HB:=aM (hb);replace HI0:=aM (hi);clear hb hk hi;have pz1:0≤(t101:Int):=odA;have qz1:t101<(l1.length:Int):=odA;obtain⟨adz1,ez1,hxz1⟩:=Kd.at_int HR1.out t101 pz1 qz1;cases ez1;replace hxz1:=keep_cell HK.out hxz1 (by first | (rw[add_block];exact hf1 _ rfl (by omega)) | exact hf1 _ rfl (by omega) | exact hf1 adz1 rfl (by omega));replace pz1:=eq_true pz1;replace qz1:=eq_true qz1)
 go_ret
 exact⟨rE,(i146 HI0.out),(hY HB.out (IsS146.ge HI0.out)),(kX HK.out)⟩
end Go.Proofs.YthejoblnfpaojaaGreat.P
namespace Go.Proofs.YthejoblnfpaojaaGreat.P
open Go.RowKit Go.Proofs.YthejoblnfpaojaaGreatW.PrintWords Go.Proofs.YthejoblnfpaojaaGreatW.PrintLast Go.Proofs.YthejoblnfpaojaaGreatZ
def keyB (b:Int):Bool:=decide (0≤b∧b≤3)
def valB (c:Int):Bool:=decide (1≤c∧c≤6)
def clsB (b:Int):Bool:=decide (0≤b∧b≤2)
def opOk (a b c:Int):Bool :=
 if a=1 then keyB b && valB c else if a=2 then keyB b && valB c else if a=3 then keyB b && (c == 0) else if a=4 then keyB b && (c == 0)
 else if a=5 then (b == 0) && valB c else if a=6 then clsB b && (c == 0) else if a=7 then (b == 0) && (c == 0) else if a=8 then (b == 0) && (c == 0) else if a=9 then (b == 0) && (c == 0)
 else if a=10 then (b == 0) && valB c else false
theorem in_dec (n lo hi:Int):(if n ≥ lo then some (decide (n≤hi)) else some false)=some (decide (lo≤n∧n≤hi)):=by
 by_cases h:n ≥ lo
 ·have h':lo≤n:=h
  simp[h,h']
 ·have h':¬ lo≤n:=h
  simp[h,h']
theorem specIn_eq (n lo hi:Int):Xb.f n lo hi=some (decide (lo≤n∧n≤hi)):=in_dec n lo hi
theorem implFrom_eq (n lo hi:Int):Xe.f n lo hi=some (decide (lo≤n∧n≤hi)):=in_dec n lo hi
theorem Xbq (a b c:Int) (h:1≤a∧a≤10) (k:Nat):XS.f (k+1+1) a b c=some (opOk a b c):=by
 have h':a=1 ∨ a=2 ∨ a=3 ∨ a=4 ∨ a=5 ∨ a=6 ∨ a=7 ∨ a=8 ∨ a=9 ∨ a=10:=by omega
 simp only[XS.f,XS.j0,XS.j1,Xas.f,Xap.f,Xax.f,XE.f,specIn_eq,Option.bind_some,opOk,keyB,valB,clsB]
 generalize decide (0≤b∧b≤3)=kb
 generalize decide (1≤c∧c≤6)=vc
 generalize decide (0≤b∧b≤2)=cb
 generalize (b == 0)=b0
 generalize (c == 0)=c0
 rcases h' with rfl | rfl | rfl | rfl | rfl | rfl | rfl | rfl | rfl | rfl<;>cases kb<;>cases vc<;>cases cb<;>cases b0<;>cases c0<;>rfl
theorem XaU (a b c:Int):Ev (fun k=>XS.f k a b c) (opOk a b c):=by
 by_cases h:1≤a∧a≤10
 ·refine Ev.shift (Ev.shift ?_)
  simp only[Xbq a b c h]
  exact Ev.now _
 ·have:opOk a b c=false:=by
   unfold opOk
   rw[if_neg (by omega),if_neg (by omega),if_neg (by omega),if_neg (by omega),if_neg (by omega),if_neg (by omega),if_neg (by omega),if_neg (by omega),if_neg (by omega),if_neg (by omega)]
  rw[this]
  simp only[XS.f,specIn_eq,Option.bind_some,h,decide_false,Bool.false_eq_true,if_false]
  exact Ev.now _
theorem Xbr (a b c:Int) (h:1≤a∧a≤10) (k:Nat):Xx.f (k+1+1+1) a b c=some (opOk a b c):=by
 have h':a=1 ∨ a=2 ∨ a=3 ∨ a=4 ∨ a=5 ∨ a=6 ∨ a=7 ∨ a=8 ∨ a=9 ∨ a=10:=by omega
 have e1:(if b=0 then some (c == 0) else some false)=some ((b == 0) && (c == 0)):=by by_cases hb:b=0<;>simp[hb]
 have e2:(if b=0 then some (decide (1≤c∧c≤6)) else some false)=some ((b == 0) && decide (1≤c∧c≤6)):=by by_cases hb:b=0<;>simp[hb]
 simp only[Xx.f,Xx.j0,Xx.j1,Xx.j2,Xaw.f,XQ.f,Xao.f,implFrom_eq,Option.bind_some,opOk,keyB,valB,clsB,e1,e2]
 generalize decide (0≤b∧b≤3)=kb
 generalize decide (1≤c∧c≤6)=vc
 generalize decide (0≤b∧b≤2)=cb
 generalize (b == 0)=b0
 generalize (c == 0)=c0
 rcases h' with rfl | rfl | rfl | rfl | rfl | rfl | rfl | rfl | rfl | rfl<;>cases kb<;>cases vc<;>cases cb<;>cases b0<;>cases c0<;>rfl
theorem XaT (a b c:Int):Ev (fun k=>Xx.f k a b c) (opOk a b c):=by
 refine Ev.shift (Ev.shift (Ev.shift ?_))
 by_cases h:1≤a∧a≤10
 ·simp only[Xbr a b c h]
  exact Ev.now _
 ·have:opOk a b c=false:=by
   unfold opOk
   rw[if_neg (by omega),if_neg (by omega),if_neg (by omega),if_neg (by omega),if_neg (by omega),if_neg (by omega),if_neg (by omega),if_neg (by omega),if_neg (by omega),if_neg (by omega)]
  rw[this]
  have h1:¬ a=1:=by omega
  have h2:¬ a=2:=by omega
  have h3:¬ a=3:=by omega
  have h4:¬ a=4:=by omega
  have h5:¬ a=5:=by omega
  have h6:¬ a=6:=by omega
  have h7:¬ a=7:=by omega
  have h8:¬ a=8:=by omega
  have h9:¬ a=9:=by omega
  have h10:¬ a=10:=by omega
  simp only[Xx.f,Xx.j0,Xx.j1,Xx.j2,h1,h2,h3,h4,h5,h6,h7,h8,h9,h10,beq_iff_eq,if_false]
  exact Ev.now _
end Go.Proofs.YthejoblnfpaojaaGreat.P
