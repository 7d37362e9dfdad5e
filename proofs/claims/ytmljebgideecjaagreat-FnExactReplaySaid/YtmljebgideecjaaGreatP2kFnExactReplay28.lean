/- A part of the proof of the law FnExactReplay: texts of this seat, merged (words, printed functions of the program, plain lemmas). Conditions: none of its own. -/
import Derived.Test.YtmljebgideecjaaGreatP2kFnExactReplay22
import Derived.Test.YtmljebgideecjaaGreatP2kFnExactReplay23
import Derived.Test.YtmljebgideecjaaGreatP2kFnExactReplay25
set_option linter.unusedSimpArgs false
set_option linter.unusedVariables false
set_option maxHeartbeats 8000000
set_option maxRecDepth 100000
namespace Go.Proofs.YtmljebgideecjaaGreat.P2
open Go.Proofs.YtmljebgideecjaaGreatZ Go.RowKit Go.Proofs.YtmljebgideecjaaGreatW.PrintWords Go.Proofs.YtmljebgideecjaaGreatW.PrintLast Go.Proofs.YtmljebgideecjaaGreatW.PrintMore
attribute [local go_sem] max2_int min2_int max_two min_two max_three min_three max_four min_four   -- for this text's walks alone
mutual
def Xc.j0:Nat→Int→Bool→List (S69)→Int→Bool→List (S172)→List (S174)→Option (Bool)
 | 0,_,_,_,_,_,_,_=>none
 | k+1,x1,x60,x102000,x102001,x102002,x102003,x102004=>if x60=true then (some false) else (Xc.l0 k x1 0 x102000 x102001 x102002 x102003 x102004)
def Xc.l0:Nat→Int→Int→List (S69)→Int→Bool→List (S172)→List (S174)→Option (Bool)
 | 0,_,_,_,_,_,_,_=>none
 | k+1,x1,x5,x102000,x102001,x102002,x102003,x102004=>if x5<(x102000.length:Int) then (if 0≤x5 then ((XN.f k ((rd_T69 x102000 x5).f0) ((rd_T69 x102000 x5).f1) ((rd_T69 x102000 x5).f2)).bind fun t104=>(if t104=true then (Xc.l0 k x1 (wrap64 (x5+1)) x102000 x102001 x102002 x102003 x102004) else (some false))) else (none)) else (Xc.l1 k x1 0 x102000 x102001 x102002 x102003 x102004)
def Xc.l1:Nat→Int→Int→List (S69)→Int→Bool→List (S172)→List (S174)→Option (Bool)
 | 0,_,_,_,_,_,_,_=>none
 | k+1,x1,x6,x102000,x102001,x102002,x102003,x102004=>if x6<(x102003.length:Int) then (if 0≤x6 then ((Xb.f ((rd_T172 x102003 x6).f0) 0 19).bind fun t106=>(if t106=true then ((Xb.f ((rd_T172 x102003 x6).f1) 0 1000).bind fun t108=>(if t108=true then (Xc.l1 k x1 (wrap64 (x6+1)) x102000 x102001 x102002 x102003 x102004) else (some false))) else (some false))) else (none)) else (Xc.l2 k x1 0 x102000 x102001 x102002 x102003 x102004)
def Xc.l2:Nat→Int→Int→List (S69)→Int→Bool→List (S172)→List (S174)→Option (Bool)
 | 0,_,_,_,_,_,_,_=>none
 | k+1,x1,x7,x102000,x102001,x102002,x102003,x102004=>if x7<(x102004.length:Int) then (if 0≤x7 then (if ((rd_T174 x102004 x7).f0)<0 then (some false) else (if ((rd_T174 x102004 x7).f0) ≥ x1 then (some false) else ((Xb.f ((rd_T174 x102004 x7).f1) 1 1000000).bind fun t111=>(if t111=true then ((Xb.f ((rd_T174 x102004 x7).f2) 0 20).bind fun t112=>(if t112=true then ((Xb.f ((rd_T174 x102004 x7).f3) 0 20).bind fun t113=>(if t113=true then (Xc.l2 k x1 (wrap64 (x7+1)) x102000 x102001 x102002 x102003 x102004) else (some false))) else (some false))) else (some false))))) else (none)) else (some true)
end
def Xc.f (k:Nat) (l0_0:List (S69)) (a0_1:Int) (a0_2:Bool) (l0_3:List (S172)) (l0_4:List (S174)) (a1:Int):Option (Bool):=if (l0_0.length:Int) > 8 then (Xc.j0 k a1 true l0_0 a0_1 a0_2 l0_3 l0_4) else ((Xb.f a0_1 0 (l0_0.length:Int)).bind fun t102=>(if t102=true then (if a0_2=true then (if a0_1 ≥ (l0_0.length:Int) then (Xc.j0 k a1 true l0_0 a0_1 a0_2 l0_3 l0_4) else (if (l0_3.length:Int) > 12 then (Xc.j0 k a1 true l0_0 a0_1 a0_2 l0_3 l0_4) else (Xc.j0 k a1 (decide ((l0_4.length:Int) > 2)) l0_0 a0_1 a0_2 l0_3 l0_4))) else (if (wrap64 ((l0_3.length:Int)+(l0_4.length:Int))) > 0 then (Xc.j0 k a1 true l0_0 a0_1 a0_2 l0_3 l0_4) else (if (l0_3.length:Int) > 12 then (Xc.j0 k a1 true l0_0 a0_1 a0_2 l0_3 l0_4) else (Xc.j0 k a1 (decide ((l0_4.length:Int) > 2)) l0_0 a0_1 a0_2 l0_3 l0_4)))) else (Xc.j0 k a1 true l0_0 a0_1 a0_2 l0_3 l0_4)))
theorem Xc.calls (k:Nat) (A0_0:Option Addr) (c0_0:Nat) (l0_0:List (S69)) (a0_1:Int) (a0_2:Bool) (A0_3:Option Addr) (c0_3:Nat) (l0_3:List (S172)) (A0_4:Option Addr) (c0_4:Nat) (l0_4:List (S174)) (a1:Int) (r:Bool) (w:World) (h0_0:Rw k69 w A0_0 c0_0 l0_0) (h0_3:Rw k172 w A0_3 c0_3 l0_3) (h0_4:Rw k174 w A0_4 c0_4 l0_4) (H:Xc.f k l0_0 a0_1 a0_2 l0_3 l0_4 a1=some r) :
  Calls Tryz.prog 95 #[.agg #[.slice A0_0 l0_0.length c0_0,.int .i64 a0_1,.bool a0_2,.slice A0_3 l0_3.length c0_3,.slice A0_4 l0_4.length c0_4],.int .i64 a1] w fun e w'=>e = .returned (.bool r)∧Below w.heap.size w w':=by
 have hu97:=Tryz.underlying97
 have hu69:=Tryz.underlying69
 have hu174:=Tryz.underlying174
 obtain⟨HR0_0,HC0_0⟩:=h0_0
 obtain⟨HR0_3,HC0_3⟩:=h0_3
 obtain⟨HR0_4,HC0_4⟩:=h0_4
 have HB:=aM (Below.refl w.heap.size w)
 unfold Xc.f at H
 have HC3:=aM H
 clear H
 go_enter Tryz.func95,Tryz.ntmps95
 go_upto_region 1 with((with_reducible refine gate_dst (N:=2) rfl ?_);(try (refine gate_guard (by rfl) ?_;dsimp only));refine boxF 2 #[.slice A0_0 l0_0.length c0_0,.int .i64 a0_1,.bool a0_2,.slice A0_3 l0_3.length c0_3,.slice A0_4 l0_4.length c0_4] 97 ?_;intro gbz1 hg wz1 hbox hb;have BKz1:=aM (hbox);have GWz1:=aG hg HB;replace HB:=aS HB hb;clear hb hbox hg)
 (try simp only[Act.put,List.setIfInBounds_toArray,List.set_cons_zero,List.set_cons_succ])
 go_cut [60] (fun vz1 wc=>∃ (kq:Nat) (x60_2:Bool),vz1 = .bool x60_2∧Aside0 (Xc.j0 kq a1 x60_2 l0_0 a0_1 a0_2 l0_3 l0_4=some r)∧Aside0 (kq≤k)∧Aside0 (wc.heap[gbz1]? = some (.cells #[(.slice A0_0 l0_0.length c0_0),.int .i64 a0_1,.bool a0_2,(.slice A0_3 l0_3.length c0_3),(.slice A0_4 l0_4.length c0_4)] 97 (0,0)))∧Aside0 (Below w.heap.size w wc))
 case first =>
  have H:=HC3.out
  clear HC3
  by_cases c5:(l0_0.length:Int) > 8
  ·rw[if_pos c5] at H
   have c5b0:=decide_eq_true c5
   have c5b1:decide (8<l0_0.length)=true:=decide_eq_true (by omega)
   clear c5
   (first | rw[c5b0] | (simp only[i64_w,i32_w];rw[c5b0]) | skip)
   have H':=aM H
   clear H
   have hczy1:=cZ5 BKz1.out
   go_wp2
   go_meet
   case rel=>exact⟨_,(true),rS,H',⟨by first | omega | exact Nat.le_refl _⟩,⟨(bX BKz1.out)⟩,⟨(hX HB.out)⟩⟩
  rw[if_neg c5] at H
  have c5b0:=decide_eq_false c5
  have c5b1:decide (8<l0_0.length)=false:=decide_eq_false (by omega)
  clear c5
  (first | rw[c5b0] | (simp only[i64_w,i32_w];rw[c5b0]) | skip)
  replace H:=bE H;obtain⟨t102,A7,H⟩:=H
  cases t102
  case false =>
   rw[if_neg nft] at H
   have H':=aM H
   clear H
   have hczy1:=cZ5 BKz1.out
   go_wp2_with (go_at_call 43;(with_reducible refine(Xb.calls _ _ _ _ _ A7.out).mono ?_);rintro e w' ⟨rfl,⟨nd,rfl⟩⟩)
   go_meet
   case rel=>exact⟨_,(true),rS,H',⟨by first | omega | exact Nat.le_refl _⟩,⟨(bX BKz1.out)⟩,⟨(hX HB.out)⟩⟩
  rw[if_pos rfl] at H
  have hczy1:=cZ5 BKz1.out
  go_wp2_with (go_at_call 43;(with_reducible refine(Xb.calls _ _ _ _ _ A7.out).mono ?_);rintro e w' ⟨rfl,⟨nd,rfl⟩⟩;refine Stop.out ?_)
  refine⟨?_⟩
  by_cases c9:a0_2=true
  ·subst c9
   rw[if_pos rfl] at H
   revert H;refine iP ?_ ?_<;>intro c10b0 H
   ·have H':=aM H
    clear H
    go_wp2
    go_meet
    case rel=>exact⟨_,(true),rS,H',⟨by first | omega | exact Nat.le_refl _⟩,⟨(bX BKz1.out)⟩,⟨(hX HB.out)⟩⟩
   by_cases c12:(l0_3.length:Int) > 12
   ·rw[if_pos c12] at H
    have c12b0:=decide_eq_true c12
    have c12b1:decide (12<l0_3.length)=true:=decide_eq_true (by omega)
    clear c12
    have H':=aM H
    clear H
    go_wp2
    go_meet
    case rel=>exact⟨_,(true),rS,H',⟨by first | omega | exact Nat.le_refl _⟩,⟨(bX BKz1.out)⟩,⟨(hX HB.out)⟩⟩
   rw[if_neg c12] at H
   have c12b0:=decide_eq_false c12
   have c12b1:decide (12<l0_3.length)=false:=decide_eq_false (by omega)
   clear c12
   have H':=aM H
   clear H
   go_wp2
   go_meet
   case rel=>exact⟨_,(decide ((l0_4.length:Int) > 2)),rS,H',⟨by first | omega | exact Nat.le_refl _⟩,⟨(bX BKz1.out)⟩,⟨(hX HB.out)⟩⟩
  replace c9:=Bool.eq_false_iff.mpr c9
  subst c9
  rw[if_neg nft] at H
  revert H;refine iP ?_ ?_<;>intro c15b0 H
  ·have H':=aM H
   clear H
   go_wp2
   go_meet
   case rel=>exact⟨_,(true),rS,H',⟨by first | omega | exact Nat.le_refl _⟩,⟨(bX BKz1.out)⟩,⟨(hX HB.out)⟩⟩
  by_cases c17:(l0_3.length:Int) > 12
  ·rw[if_pos c17] at H
   have c17b0:=decide_eq_true c17
   have c17b1:decide (12<l0_3.length)=true:=decide_eq_true (by omega)
   clear c17
   have H':=aM H
   clear H
   go_wp2
   go_meet
   case rel=>exact⟨_,(true),rS,H',⟨by first | omega | exact Nat.le_refl _⟩,⟨(bX BKz1.out)⟩,⟨(hX HB.out)⟩⟩
  rw[if_neg c17] at H
  have c17b0:=decide_eq_false c17
  have c17b1:decide (12<l0_3.length)=false:=decide_eq_false (by omega)
  clear c17
  have H':=aM H
  clear H
  go_wp2
  go_meet
  case rel=>exact⟨_,(decide ((l0_4.length:Int) > 2)),rS,H',⟨by first | omega | exact Nat.le_refl _⟩,⟨(bX BKz1.out)⟩,⟨(hX HB.out)⟩⟩
 case rest =>
  clear HC3
  obtain⟨kq,x60_2,rfl,HA,HJy1,BKz1,HB⟩:=hcut
  cases kq with
  | zero=>exact absurd HA.out (by simp[Xc.j0])
  | succ kj2 =>
   have H:=HA.out
   clear HA
   simp only[Xc.j0] at H
   cases x60_2
   case true =>
    rw[if_pos rfl] at H
    exact fR
   rw[if_neg nft] at H
   have H':=aM H
   clear H
   go_wp2
   go_loopg [5] kj2 (fun kq v5 w'=>∃ (x5_2:Int),v5 = .int .i64 x5_2∧Aside0 (Xc.l0 kq a1 x5_2 l0_0 a0_1 a0_2 l0_3 l0_4=some r)∧Aside0 (kq≤kj2)∧Aside0 (w'.heap[gbz1]? = some (.cells #[(.slice A0_0 l0_0.length c0_0),.int .i64 a0_1,.bool a0_2,(.slice A0_3 l0_3.length c0_3),(.slice A0_4 l0_4.length c0_4)] 97 (0,0)))∧Aside0 (Below w.heap.size w w'))
   case atStart=>exact⟨(0),rS,H',⟨Nat.le_refl _⟩,⟨(bX BKz1.out)⟩,⟨(hX HB.out)⟩⟩
   case round =>
    clear H'
    obtain⟨x5_2,rfl,HA,HKw1,BKz1,HB⟩:=hrel
    cases gk with
    | zero=>exact absurd HA.out (by simp[Xc.l0])
    | succ k2 =>
     have H:=HA.out
     clear HA
     simp only[Xc.l0] at H
     revert H;refine iP ?_ ?_<;>intro c22b0 H
     ·replace H:=ifP H;obtain⟨c23,H⟩:=H
      have c23b0:=decide_eq_true c23
      clear c23
      replace H:=bE H;obtain⟨t104,A24,H⟩:=H
      cases t104
      case false =>
       rw[if_neg nft] at H
       obtain rfl:=sI H
       have hczv1:=cZ5 BKz1.out
       obtain⟨adv1,ev1,pv1,qv1,hxv1⟩:=at_T69c HR0_0 HB x5_2
       cases ev1
       go_wp2_with (refine gB 138 73 Tryz.func138 (XN.calls _ _ _ _ _ _ A24.out) ?_;intro wv1 hb;replace BKz1:=aB BKz1 hb;replace HB:=aS HB hb;clear hb)
       go_ret
       exact⟨rE,(hX HB.out)⟩
      rw[if_pos rfl] at H
      have H':=aM H
      clear H
      have hczv1:=cZ5 BKz1.out
      obtain⟨adv1,ev1,pv1,qv1,hxv1⟩:=at_T69c HR0_0 HB x5_2
      cases ev1
      go_wp2_with (refine gB 138 73 Tryz.func138 (XN.calls _ _ _ _ _ _ A24.out) ?_;intro wv1 hb;replace BKz1:=aB BKz1 hb;replace HB:=aS HB hb;clear hb)
      go_roundg k2
      case measure=>have:=HJy1.out;have:=HKw1.out;omega
      case rel=>exact⟨(wrap64 (x5_2+1)),rS,H',⟨by have:=HJy1.out;have:=HKw1.out;omega⟩,⟨(bX BKz1.out)⟩,⟨(hX HB.out)⟩⟩
     have H':=aM H
     clear H
     have hczv1:=cZ5 BKz1.out
     go_wp2
     go_loopg [6] k2 (fun kq v6 w'=>∃ (x6_3:Int),v6 = .int .i64 x6_3∧Aside0 (Xc.l1 kq a1 x6_3 l0_0 a0_1 a0_2 l0_3 l0_4=some r)∧Aside0 (kq≤k2)∧Aside0 (w'.heap[gbz1]? = some (.cells #[(.slice A0_0 l0_0.length c0_0),.int .i64 a0_1,.bool a0_2,(.slice A0_3 l0_3.length c0_3),(.slice A0_4 l0_4.length c0_4)] 97 (0,0)))∧Aside0 (Below w.heap.size w w'))
     case atStart=>exact⟨(0),rS,H',⟨Nat.le_refl _⟩,⟨(bX BKz1.out)⟩,⟨(hX HB.out)⟩⟩
     case round =>
      clear H'
      try clear c22b0
      try clear hczv1
      obtain⟨x6_3,rfl,HA,HKu1,BKz1,HB⟩:=hrel
      cases gk with
      | zero=>exact absurd HA.out (by simp[Xc.l1])
      | succ k3 =>
       have H:=HA.out
       clear HA
       simp only[Xc.l1] at H
       revert H;refine iP ?_ ?_<;>intro c31b0 H
       ·replace H:=ifP H;obtain⟨c32,H⟩:=H
        have c32b0:=decide_eq_true c32
        clear c32
        replace H:=bE H;obtain⟨t106,A33,H⟩:=H
        cases t106
        case false =>
         rw[if_neg nft] at H
         obtain rfl:=sI H
         have hczt1:=cZ5 BKz1.out
         obtain⟨adt1,et1,pt1,qt1,hxt1⟩:=at_T172c HR0_3 HB x6_3
         cases et1
         go_wp2_with (refine gD 43 88 Tryz.func43 (Xb.calls _ _ _ _ _ A33.out) ?_;intro nd)
         go_ret
         exact⟨rE,(hX HB.out)⟩
        rw[if_pos rfl] at H
        replace H:=bE H;obtain⟨t108,A35,H⟩:=H
        have hczt1:=cZ5 BKz1.out
        obtain⟨adt1,et1,pt1,qt1,hxt1⟩:=at_T172c HR0_3 HB x6_3
        cases et1
        go_wp2_with (refine gD 43 88 Tryz.func43 (Xb.calls _ _ _ _ _ A33.out) ?_;intro nd;have pt2:0≤(x6_3:Int):=odA;have qt2:x6_3<(l0_3.length:Int):=odA;obtain⟨adt2,et2,hxt3,hxt4⟩:=at_T172 HR0_3.out x6_3 pt2 qt2;obtain rfl:adt1=adt2:=(by injection et2);replace hxt3:=bc HB.out hxt3;replace hxt4:=bc HB.out hxt4;replace pt2:=eq_true pt2;replace qt2:=eq_true qt2;refine Stop.out ?_)
        refine⟨?_⟩
        cases t108
        case false =>
         rw[if_neg nft] at H
         obtain rfl:=sI H
         go_wp2_with (go_at_call 43;(with_reducible refine(Xb.calls _ _ _ _ _ A35.out).mono ?_);rintro e w' ⟨rfl,⟨nd,rfl⟩⟩)
         go_ret
         exact⟨rE,(hX HB.out)⟩
        rw[if_pos rfl] at H
        have H':=aM H
        clear H
        go_wp2_with (go_at_call 43;(with_reducible refine(Xb.calls _ _ _ _ _ A35.out).mono ?_);rintro e w' ⟨rfl,⟨nd,rfl⟩⟩)
        go_roundg k3
        case measure=>have:=HJy1.out;have:=HKw1.out;have:=HKu1.out;omega
        case rel=>exact⟨(wrap64 (x6_3+1)),rS,H',⟨by have:=HJy1.out;have:=HKw1.out;have:=HKu1.out;omega⟩,⟨(bX BKz1.out)⟩,⟨(hX HB.out)⟩⟩
       have H':=aM H
       clear H
       have hczt1:=cZ5 BKz1.out
       go_wp2
       go_loopg [7] k3 (fun kq v7 w'=>∃ (x7_4:Int),v7 = .int .i64 x7_4∧Aside0 (Xc.l2 kq a1 x7_4 l0_0 a0_1 a0_2 l0_3 l0_4=some r)∧Aside0 (kq≤k3)∧Aside0 (w'.heap[gbz1]? = some (.cells #[(.slice A0_0 l0_0.length c0_0),.int .i64 a0_1,.bool a0_2,(.slice A0_3 l0_3.length c0_3),(.slice A0_4 l0_4.length c0_4)] 97 (0,0)))∧Aside0 (Below w.heap.size w w'))
       case atStart=>exact⟨(0),rS,H',⟨Nat.le_refl _⟩,⟨(bX BKz1.out)⟩,⟨(hX HB.out)⟩⟩
       case round =>
        clear H'
        try clear c22b0
        try clear c31b0
        try clear hczv1
        try clear hczt1
        obtain⟨x7_4,rfl,HA,HKs1,BKz1,HB⟩:=hrel
        cases gk with
        | zero=>exact absurd HA.out (by simp[Xc.l2])
        | succ k4 =>
         have H:=HA.out
         clear HA
         simp only[Xc.l2] at H
         revert H;refine iN ?_ ?_<;>intro c41b0 H
         ·obtain rfl:=sI H
          have hczr1:=cZ5 BKz1.out
          exact fS
         replace H:=ifQ H;obtain⟨c42b0,H⟩:=H
         have hczr1:=cZ5 BKz1.out
         obtain⟨adr1,er1,pr1,qr1,hxr1⟩:=at_T174c HR0_4 HB x7_4
         cases er1
         go_wp2_with ((with_reducible refine gate_dst (N:=8) rfl ?_);(try (refine gate_guard (by rfl) ?_;dsimp only));refine boxF 8 #[.int .i64 0,.int .i64 0,.int .i64 0,.int .i64 0] 174 ?_;intro gbr1 hg wr1 hbox hb;have BKr1:=aM (hbox);have GWr1:=aG hg HB;have NBr1:=aL hg BKz1;have NBr2:=aR hg BKz1;replace BKz1:=aB BKz1 hb;replace HB:=aS HB hb;clear hb hbox hg;have hnbr1:=nB NBr2 NBr1;have hczr6:=cZ4 BKr1.out;refine Stop.out ?_)
         refine⟨?_⟩
         revert H;refine iP ?_ ?_<;>intro c43b0 H
         ·obtain rfl:=sI H
          exact fS
         revert H;refine iP ?_ ?_<;>intro c48b0 H
         ·obtain rfl:=sI H
          exact fS
         replace H:=bE H;obtain⟨t111,A53,H⟩:=H
         cases t111
         case false =>
          rw[if_neg nft] at H
          obtain rfl:=sI H
          go_wp2_with (go_at_call 43;(with_reducible refine(Xb.calls _ _ _ _ _ A53.out).mono ?_);rintro e w' ⟨rfl,⟨nd,rfl⟩⟩)
          go_ret
          exact⟨rE,(hX HB.out)⟩
         rw[if_pos rfl] at H
         replace H:=bE H;obtain⟨t112,A55,H⟩:=H
         go_wp2_with (go_at_call 43;(with_reducible refine(Xb.calls _ _ _ _ _ A53.out).mono ?_);rintro e w' ⟨rfl,⟨nd,rfl⟩⟩;refine Stop.out ?_)
         refine⟨?_⟩
         cases t112
         case false =>
          rw[if_neg nft] at H
          obtain rfl:=sI H
          go_wp2_with (go_at_call 43;(with_reducible refine(Xb.calls _ _ _ _ _ A55.out).mono ?_);rintro e w' ⟨rfl,⟨nd,rfl⟩⟩)
          go_ret
          exact⟨rE,(hX HB.out)⟩
         rw[if_pos rfl] at H
         replace H:=bE H;obtain⟨t113,A57,H⟩:=H
         go_wp2_with (go_at_call 43;(with_reducible refine(Xb.calls _ _ _ _ _ A55.out).mono ?_);rintro e w' ⟨rfl,⟨nd,rfl⟩⟩;refine Stop.out ?_)
         refine⟨?_⟩
         cases t113
         case false =>
          rw[if_neg nft] at H
          obtain rfl:=sI H
          go_wp2_with (go_at_call 43;(with_reducible refine(Xb.calls _ _ _ _ _ A57.out).mono ?_);rintro e w' ⟨rfl,⟨nd,rfl⟩⟩)
          go_ret
          exact⟨rE,(hX HB.out)⟩
         rw[if_pos rfl] at H
         have H':=aM H
         clear H
         go_wp2_with (go_at_call 43;(with_reducible refine(Xb.calls _ _ _ _ _ A57.out).mono ?_);rintro e w' ⟨rfl,⟨nd,rfl⟩⟩)
         go_roundg k4
         case measure=>have:=HJy1.out;have:=HKw1.out;have:=HKu1.out;have:=HKs1.out;omega
         case rel=>exact⟨(wrap64 (x7_4+1)),rS,H',⟨by have:=HJy1.out;have:=HKw1.out;have:=HKu1.out;have:=HKs1.out;omega⟩,⟨(bF BKz1.out)⟩,⟨(hX HB.out)⟩⟩
def Xaa.l0:Nat→Int→Int→Int→List Int→Int→Option (Int)
 | 0,_,_,_,_,_=>none
 | k+1,x1,x5,x6,x102000,x102001=>if x6<(x102000.length:Int) then (if 0≤x6 then ((XM.f (rd x102000 x6)).bind fun t103=>(if t103=true then ((Xa4.f (rd x102000 x6)).bind fun t105=>((Xaw.f (t105 == x1)).bind fun t106=>(Xaa.l0 k x1 (wrap64 (x5+t106)) (wrap64 (x6+1)) x102000 x102001))) else ((Xaw.f false).bind fun t107=>(Xaa.l0 k x1 (wrap64 (x5+t107)) (wrap64 (x6+1)) x102000 x102001)))) else (none)) else (some x5)
def Xaa.f (k:Nat) (l0_0:List Int) (a0_1:Int) (a1:Int):Option (Int):=Xaa.l0 k a1 0 0 l0_0 a0_1
theorem Xaa.calls (k:Nat) (A0_0:Option Addr) (c0_0:Nat) (l0_0:List Int) (a0_1:Int) (a1:Int) (r:Int) (w:World) (h0_0:Rw (Kd.int .i64) w A0_0 c0_0 l0_0) (H:Xaa.f k l0_0 a0_1 a1=some r) :
  Calls Tryz.prog 146 #[.agg #[.slice A0_0 l0_0.length c0_0,.int .i64 a0_1],.int .i64 a1] w fun e w'=>e = .returned (.int .i64 r)∧Below w.heap.size w w':=by
 have hu41:=Tryz.underlying41
 obtain⟨HR0_0,HC0_0⟩:=h0_0
 have HB:=aM (Below.refl w.heap.size w)
 unfold Xaa.f at H
 have H':=aM H
 clear H
 go_enter Tryz.func146,Tryz.ntmps146
 go_wp2_with (refine boxE 2 #[.slice A0_0 l0_0.length c0_0,.int .i64 a0_1] 41 ?_;intro gbz1 hg wz1 hbox hb;have BKz1:=aM (hbox);have GWz1:=aG hg HB;replace HB:=aS HB hb;clear hb hbox hg)
 go_loopg [5,6] k (fun kq v5 v6 w'=>∃ (x5_1:Int) (x6_1:Int),v5 = .int .i64 x5_1∧v6 = .int .i64 x6_1∧Aside0 (Xaa.l0 kq a1 x5_1 x6_1 l0_0 a0_1=some r)∧Aside0 (kq≤k)∧Aside0 (w'.heap[gbz1]? = some (.cells #[(.slice A0_0 l0_0.length c0_0),.int .i64 a0_1] 41 (0,0)))∧Aside0 (Below w.heap.size w w'))
 case atStart=>exact⟨(0),(0),rS,rS,H',⟨Nat.le_refl _⟩,⟨(bX BKz1.out)⟩,⟨(hX HB.out)⟩⟩
 case round =>
  clear H'
  obtain⟨x5_1,x6_1,rfl,rfl,HA,HKy1,BKz1,HB⟩:=hrel
  cases gk with
  | zero=>exact absurd HA.out (by simp[Xaa.l0])
  | succ k1 =>
   have H:=HA.out
   clear HA
   simp only[Xaa.l0] at H
   revert H;refine iN ?_ ?_<;>intro c4b0 H
   ·obtain rfl:=sI H
    have hczx1:=cZ2 BKz1.out
    exact fS
   replace H:=ifQ H;obtain⟨c5b0,H⟩:=H
   replace H:=bE H;obtain⟨t103,A6,H⟩:=H
   cases t103
   case false =>
    rw[if_neg nft] at H
    replace H:=bE H;obtain⟨t107,A11,H⟩:=H
    have H':=aM H
    clear H
    have hczx1:=cZ2 BKz1.out
    obtain⟨adx1,ex1,px1,qx1,hxx1⟩:=at_ic HR0_0 HB x6_1
    cases ex1
    go_wp2_with (first | (refine gD 159 20 Tryz.func159 (XM.calls _ _ _ A6.out) ?_;intro nd) | (refine gD 162 31 Tryz.func162 (Xaw.calls _ _ _ A11.out) ?_;intro nd))
    go_roundg k1
    case measure=>have:=HKy1.out;omega
    case rel=>exact⟨(wrap64 (x5_1+t107)),(wrap64 (x6_1+1)),rS,rS,H',⟨by have:=HKy1.out;omega⟩,⟨(bX BKz1.out)⟩,⟨(hX HB.out)⟩⟩
   rw[if_pos rfl] at H
   replace H:=bE H;obtain⟨t105,A8,H⟩:=H
   replace H:=bE H;obtain⟨t106,A9,H⟩:=H
   have H':=aM H
   clear H
   have hczx1:=cZ2 BKz1.out
   obtain⟨adx1,ex1,px1,qx1,hxx1⟩:=at_ic HR0_0 HB x6_1
   cases ex1
   go_wp2_with (first | (refine gD 159 20 Tryz.func159 (XM.calls _ _ _ A6.out) ?_;intro nd;have px2:0≤(x6_1:Int):=odA;have qx2:x6_1<(l0_0.length:Int):=odA;obtain⟨adx2,ex2,hxx2⟩:=Kd.at_int HR0_0.out x6_1 px2 qx2;obtain rfl:adx1=adx2:=(by injection ex2);replace hxx2:=bc HB.out hxx2;replace px2:=eq_true px2;replace qx2:=eq_true qx2) | (go_at_call 202;(with_reducible refine(Xa4.calls _ _ _ A8.out).mono ?_);rintro e w' ⟨rfl,⟨nd,rfl⟩⟩) | (refine gD 162 31 Tryz.func162 (Xaw.calls _ _ _ A9.out) ?_;intro nd))
   go_roundg k1
   case measure=>have:=HKy1.out;omega
   case rel=>exact⟨(wrap64 (x5_1+t106)),(wrap64 (x6_1+1)),rS,rS,H',⟨by have:=HKy1.out;omega⟩,⟨(bX BKz1.out)⟩,⟨(hX HB.out)⟩⟩
def XaS.f (k:Nat) (a0_0:Int) (a0_1:Int) (l0_2:List (S165)) (a0_3:Int) (l0_4:List Int):Option (Bool):=(Xn.f k a0_0 a0_1 l0_2 a0_3 l0_4).bind fun t102=>(some (!t102))
theorem XaS.calls (k:Nat) (a0_0:Int) (a0_1:Int) (A0_2:Option Addr) (c0_2:Nat) (l0_2:List (S165)) (a0_3:Int) (A0_4:Option Addr) (c0_4:Nat) (l0_4:List Int) (r:Bool) (w:World) (h0_2:Rw k165 w A0_2 c0_2 l0_2) (h0_4:Rw (Kd.int .i64) w A0_4 c0_4 l0_4) (H:XaS.f k a0_0 a0_1 l0_2 a0_3 l0_4=some r) :
  Calls Tryz.prog 170 #[.agg #[.int .i64 a0_0,.int .i64 a0_1,.slice A0_2 l0_2.length c0_2,.int .i64 a0_3,.slice A0_4 l0_4.length c0_4]] w fun e w'=>e = .returned (.bool r)∧Below w.heap.size w w':=by
 have hu162:=Tryz.underlying162
 obtain⟨HR0_2,HC0_2⟩:=h0_2
 obtain⟨HR0_4,HC0_4⟩:=h0_4
 have HB:=aM (Below.refl w.heap.size w)
 unfold XaS.f at H
 replace H:=bE H;obtain⟨t102,A2,H⟩:=H
 obtain rfl:=sI H
 go_enter Tryz.func170,Tryz.ntmps170
 go_wp2_with (first | (refine boxE 1 #[.int .i64 a0_0,.int .i64 a0_1,.slice A0_2 l0_2.length c0_2,.int .i64 a0_3,.slice A0_4 l0_4.length c0_4] 162 ?_;intro gbz1 hg wz1 hbox hb;have BKz1:=aM (hbox);have GWz1:=aG hg HB;replace HB:=aS HB hb;clear hb hbox hg;have hczz1:=cZ5 BKz1.out) | (refine gB 171 4 Tryz.func171 (Xn.calls _ _ _ _ _ _ _ _ _ _ _ _ (rW HR0_2 HB HC0_2) (rW HR0_4 HB HC0_4) A2.out) ?_;intro wz2 hb;replace BKz1:=aB BKz1 hb;replace HB:=aS HB hb;clear hb))
 go_ret
 exact⟨rE,(hX HB.out)⟩
def XaC.f (k:Nat) (a0_0:Int) (a0_1:Int) (a0_2:Int):Option (Bool):=(Xt.f k a0_0 a0_1 a0_2).bind fun t102=>(some (!t102))
theorem XaC.calls (k:Nat) (a0_0:Int) (a0_1:Int) (a0_2:Int) (r:Bool) (w:World) (H:XaC.f k a0_0 a0_1 a0_2=some r) :
  Calls Tryz.prog 179 #[.agg #[.int .i64 a0_0,.int .i64 a0_1,.int .i64 a0_2]] w fun e w'=>e = .returned (.bool r)∧Below w.heap.size w w':=by
 have hu69:=Tryz.underlying69
 have HB:=aM (Below.refl w.heap.size w)
 unfold XaC.f at H
 replace H:=bE H;obtain⟨t102,A2,H⟩:=H
 obtain rfl:=sI H
 go_enter Tryz.func179,Tryz.ntmps179
 go_wp2_with (first | (refine boxE 1 #[.int .i64 a0_0,.int .i64 a0_1,.int .i64 a0_2] 69 ?_;intro gbz1 hg wz1 hbox hb;have BKz1:=aM (hbox);have GWz1:=aG hg HB;replace HB:=aS HB hb;clear hb hbox hg;have hczz1:=cZ3 BKz1.out) | (refine gB 105 4 Tryz.func105 (Xt.calls _ _ _ _ _ _ A2.out) ?_;intro wz2 hb;replace BKz1:=aB BKz1 hb;replace HB:=aS HB hb;clear hb))
 go_ret
 exact⟨rE,(hX HB.out)⟩
def XG.l0:Nat→List (S172)→Int→Int→Option (Int)
 | 0,_,_,_=>none
 | k+1,x0,x7,x8=>if x8<x7 then (if 0≤x8 then (if x8<(x0.length:Int) then ((XaB.f ((rd_T172 x0 x8).f0) ((rd_T172 x0 x8).f1)).bind fun t102=>(if t102=true then (some x8) else (XG.l0 k x0 x7 (wrap64 (x8+1))))) else (none)) else (none)) else (some (-1))
def XG.f (k:Nat) (l0:List (S172))  : Option (Int):=XG.l0 k l0 (l0.length:Int) 0
theorem XG.calls (k:Nat) (A0:Option Addr) (c0:Nat) (l0:List (S172)) (r:Int) (w:World) (h0:Rw k172 w A0 c0 l0) (H:XG.f k l0=some r) :
  Calls Tryz.prog 211 #[.slice A0 l0.length c0,.func (.func 181) #[] #[]] w fun e w'=>e = .returned (.int .i64 r)∧Below w.heap.size w w':=by
 have hu172:=Tryz.underlying172
 obtain⟨HR0,HC0⟩:=h0
 have HB:=aM (Below.refl w.heap.size w)
 unfold XG.f at H
 have H':=aM H
 clear H
 go_enter Tryz.func211,Tryz.ntmps211
 go_wp2
 go_loopg [8] k (fun kq v8 w'=>∃ (x8_1:Int),v8 = .int .i64 x8_1∧Aside0 (XG.l0 kq l0 (l0.length:Int) x8_1=some r)∧Aside0 (kq≤k)∧Aside0 (Below w.heap.size w w'))
 case atStart=>exact⟨(0),rS,H',⟨Nat.le_refl _⟩,⟨(hX HB.out)⟩⟩
 case round =>
  clear H'
  obtain⟨x8_1,rfl,HA,HKy1,HB⟩:=hrel
  cases gk with
  | zero=>exact absurd HA.out (by simp[XG.l0])
  | succ k1 =>
   have H:=HA.out
   clear HA
   simp only[XG.l0] at H
   revert H;refine iN ?_ ?_<;>intro c3b0 H
   ·obtain rfl:=sI H
    exact fS
   replace H:=ifQ H;obtain⟨c4b0,H⟩:=H
   replace H:=ifQ H;obtain⟨c5b0,H⟩:=H
   replace H:=bE H;obtain⟨t102,A6,H⟩:=H
   cases t102
   case true =>
    rw[if_pos rfl] at H
    obtain rfl:=sI H
    obtain⟨adx1,ex1,px1,qx1,hxx1⟩:=at_T172c HR0 HB x8_1
    cases ex1
    go_wp2_with ((with_reducible refine Go.Proofs.YtmljebgideecjaaGreatZ.gate_calleeT (t:=11) rfl ?_);refine Go.Proofs.YtmljebgideecjaaGreatZ.goesT_ (some 16) 11 rfl rfl Tryz.func181 (by kernel_rfl) rfl #[.agg #[.int .i64 ((rd_T172 l0 x8_1).f0),.int .i64 ((rd_T172 l0 x8_1).f1)]] rfl rfl (by (try simp only[List.map_toArray,List.map_cons,List.map_nil]);first | done | rfl | (simp only[List.length_drop,List.length_take];rfl)) ?_;(with_reducible refine(XaB.calls _ _ _ _ A6.out).mono ?_);rintro e wx1 ⟨rfl,hb⟩;refine⟨_,rfl,?_⟩;replace HB:=aS HB hb;clear hb)
    go_ret
    exact⟨rE,(hX HB.out)⟩
   rw[if_neg nft] at H
   have H':=aM H
   clear H
   obtain⟨adx1,ex1,px1,qx1,hxx1⟩:=at_T172c HR0 HB x8_1
   cases ex1
   go_wp2_with ((with_reducible refine Go.Proofs.YtmljebgideecjaaGreatZ.gate_calleeT (t:=11) rfl ?_);refine Go.Proofs.YtmljebgideecjaaGreatZ.goesT_ (some 16) 11 rfl rfl Tryz.func181 (by kernel_rfl) rfl #[.agg #[.int .i64 ((rd_T172 l0 x8_1).f0),.int .i64 ((rd_T172 l0 x8_1).f1)]] rfl rfl (by (try simp only[List.map_toArray,List.map_cons,List.map_nil]);first | done | rfl | (simp only[List.length_drop,List.length_take];rfl)) ?_;(with_reducible refine(XaB.calls _ _ _ _ A6.out).mono ?_);rintro e wx1 ⟨rfl,hb⟩;refine⟨_,rfl,?_⟩;replace HB:=aS HB hb;clear hb)
   go_roundg k1
   case measure=>have:=HKy1.out;omega
   case rel=>exact⟨(wrap64 (x8_1+1)),rS,H',⟨by have:=HKy1.out;omega⟩,⟨(hX HB.out)⟩⟩
def Xay.f (k:Nat) (l0:List (S174)) (a1:Int):Option (Bool):=(XF.f k l0 a1).bind fun t101=>(some (decide (t101 ≥ 0)))
theorem Xay.calls (k:Nat) (A0:Option Addr) (c0:Nat) (l0:List (S174)) (gc1:Nat) (a1:Int) (r:Bool) (w:World) (h0:Rw k174 w A0 c0 l0) (hbc1:w.heap[gc1]? = some (.cells #[.int .i64 a1] 3 (0,0))) (H:Xay.f k l0 a1=some r) :
  Calls Tryz.prog 184 #[.slice A0 l0.length c0,.func (.func 185) #[] #[.pointer (some ⟨gc1,0,none⟩)]] w fun e w'=>e = .returned (.bool r)∧Below w.heap.size w w':=by
 obtain⟨HR0,HC0⟩:=h0
 have BKz1:=aM hbc1
 clear hbc1
 have HB:=aM (Below.refl w.heap.size w)
 unfold Xay.f at H
 replace H:=bE H;obtain⟨tz1,Az1,H⟩:=H
 obtain rfl:=sI H
 go_enter Tryz.func184,Tryz.ntmps184
 go_wp2_with (refine gB 212 7 Tryz.func212 (XF.calls k _ _ l0 gc1 a1 tz1 _ (rw2 (cX HR0.out) HC0.out) (by exact(bX BKz1.out)) Az1.out) ?_;intro wz1 hb;replace BKz1:=aB BKz1 hb;replace HB:=aS HB hb;clear hb)
 go_ret
 exact⟨rE,(hX HB.out)⟩
def X1.l0:Nat→Int→Int→List Int→Int→Int→Option (Int)
 | 0,_,_,_,_,_=>none
 | k+1,x1,x5,x9,x10,x11=>if x11<x10 then (if 0≤x11 then (if x11<(x9.length:Int) then ((XR.f (rd x9 x11)).bind fun t103=>(if t103=true then ((Xa5.f (rd x9 x11)).bind fun t104=>(if t104=x1 then (X1.l0 k x1 (wrap64 (x5+1)) x9 x10 (wrap64 (x11+1))) else (X1.l0 k x1 x5 x9 x10 (wrap64 (x11+1))))) else (X1.l0 k x1 x5 x9 x10 (wrap64 (x11+1))))) else (none)) else (none)) else (some x5)
def X1.f (k:Nat) (l0_0:List Int) (a0_1:Int) (a1:Int):Option (Int):=X1.l0 k a1 0 l0_0 (l0_0.length:Int) 0
theorem X1.calls (k:Nat) (A0_0:Option Addr) (c0_0:Nat) (l0_0:List Int) (a0_1:Int) (a1:Int) (r:Int) (w:World) (h0_0:Rw (Kd.int .i64) w A0_0 c0_0 l0_0) (H:X1.f k l0_0 a0_1 a1=some r) :
  Calls Tryz.prog 201 #[.agg #[.slice A0_0 l0_0.length c0_0,.int .i64 a0_1],.int .i64 a1] w fun e w'=>e = .returned (.int .i64 r)∧Below w.heap.size w w':=by
 have hu41:=Tryz.underlying41
 obtain⟨HR0_0,HC0_0⟩:=h0_0
 have HB:=aM (Below.refl w.heap.size w)
 unfold X1.f at H
 have H':=aM H
 clear H
 go_enter Tryz.func201,Tryz.ntmps201
 go_wp2_with (refine boxE 2 #[.slice A0_0 l0_0.length c0_0,.int .i64 a0_1] 41 ?_;intro gbz1 hg wz1 hbox hb;have BKz1:=aM (hbox);have GWz1:=aG hg HB;replace HB:=aS HB hb;clear hb hbox hg;have hczz1:=cZ2 BKz1.out)
 go_loopg [5,11] k (fun kq v5 v11 w'=>∃ (x5_1:Int) (x11_1:Int),v5 = .int .i64 x5_1∧v11 = .int .i64 x11_1∧Aside0 (X1.l0 kq a1 x5_1 l0_0 (l0_0.length:Int) x11_1=some r)∧Aside0 (kq≤k)∧Aside0 (w'.heap[gbz1]? = some (.cells #[(.slice A0_0 l0_0.length c0_0),.int .i64 a0_1] 41 (0,0)))∧Aside0 (Below w.heap.size w w'))
 case atStart=>exact⟨(0),(0),rS,rS,H',⟨Nat.le_refl _⟩,⟨(bX BKz1.out)⟩,⟨(hX HB.out)⟩⟩
 case round =>
  clear H'
  try clear hczz1
  obtain⟨x5_1,x11_1,rfl,rfl,HA,HKy1,BKz1,HB⟩:=hrel
  cases gk with
  | zero=>exact absurd HA.out (by simp[X1.l0])
  | succ k1 =>
   have H:=HA.out
   clear HA
   simp only[X1.l0] at H
   revert H;refine iN ?_ ?_<;>intro c5b0 H
   ·obtain rfl:=sI H
    exact fS
   replace H:=ifQ H;obtain⟨c6b0,H⟩:=H
   replace H:=ifQ H;obtain⟨c7b0,H⟩:=H
   replace H:=bE H;obtain⟨t103,A8,H⟩:=H
   cases t103
   case false =>
    rw[if_neg nft] at H
    have H':=aM H
    clear H
    obtain⟨adx1,ex1,px1,qx1,hxx1⟩:=at_ic HR0_0 HB x11_1
    cases ex1
    go_wp2_with (refine gD 174 16 Tryz.func174 (XR.calls _ _ _ A8.out) ?_;intro nd)
    go_roundg k1
    case measure=>have:=HKy1.out;omega
    case rel=>exact⟨(x5_1),(wrap64 (x11_1+1)),rS,rS,H',⟨by have:=HKy1.out;omega⟩,⟨(bX BKz1.out)⟩,⟨(hX HB.out)⟩⟩
   rw[if_pos rfl] at H
   replace H:=bE H;obtain⟨t104,A10,H⟩:=H
   obtain⟨adx1,ex1,px1,qx1,hxx1⟩:=at_ic HR0_0 HB x11_1
   cases ex1
   go_wp2_with (first | (refine gD 174 16 Tryz.func174 (XR.calls _ _ _ A8.out) ?_;intro nd) | (go_at_call 150;(with_reducible refine(Xa5.calls _ _ _ A10.out).mono ?_);rintro e w' ⟨rfl,⟨nd,rfl⟩⟩;refine Stop.out ?_))
   refine⟨?_⟩
   revert H;refine eN ?_ ?_<;>intro c11b0 c11b1 H
   ·have H':=aM H
    clear H
    go_wp2
    go_roundg k1
    case measure=>have:=HKy1.out;omega
    case rel=>exact⟨(x5_1),(wrap64 (x11_1+1)),rS,rS,H',⟨by have:=HKy1.out;omega⟩,⟨(bX BKz1.out)⟩,⟨(hX HB.out)⟩⟩
   have H':=aM H
   clear H
   go_wp2
   go_roundg k1
   case measure=>have:=HKy1.out;omega
   case rel=>exact⟨(wrap64 (x5_1+1)),(wrap64 (x11_1+1)),rS,rS,H',⟨by have:=HKy1.out;omega⟩,⟨(bX BKz1.out)⟩,⟨(hX HB.out)⟩⟩
end Go.Proofs.YtmljebgideecjaaGreat.P2
namespace Go.Proofs.YtmljebgideecjaaGreat.P2
open Go.RowKit Go.Proofs.YtmljebgideecjaaGreatW.PrintWords Go.Proofs.YtmljebgideecjaaGreatW.PrintLast Go.Proofs.YtmljebgideecjaaGreatZ
def keyB (b:Int):Bool:=decide (0≤b∧b≤3)
def valB (c:Int):Bool:=decide (1≤c∧c≤6)
def clsB (b:Int):Bool:=decide (0≤b∧b≤2)
def opOk (a b c:Int):Bool :=
 if a=1 then keyB b && valB c else if a=2 then keyB b && valB c else if a=3 then keyB b && (c == 0) else if a=4 then keyB b && (c == 0)
 else if a=5 then (b == 0) && valB c else if a=6 then clsB b && (c == 0) else if a=7 then (b == 0) && (c == 0) else if a=8 then (b == 0) && (c == 0) else if a=9 then (b == 0) && (c == 0)
 else if a=10 then (b == 0) && valB c else false
theorem in_dec (n lo hi:Int):(if n ≥ lo then some (decide (n≤hi)) else some false)=some (decide (lo≤n∧n≤hi)):=by
 by_cases h:n ≥ lo
 ·have h':lo≤n:=h
  simp[h,h']
 ·have h':¬ lo≤n:=h
  simp[h,h']
theorem specIn_eq (n lo hi:Int):Xb.f n lo hi=some (decide (lo≤n∧n≤hi)):=in_dec n lo hi
theorem implFrom_eq (n lo hi:Int):Xd.f n lo hi=some (decide (lo≤n∧n≤hi)):=in_dec n lo hi
theorem XbW (a b c:Int) (h:1≤a∧a≤10) (k:Nat):XN.f (k+1+1) a b c=some (opOk a b c):=by
 have h':a=1 ∨ a=2 ∨ a=3 ∨ a=4 ∨ a=5 ∨ a=6 ∨ a=7 ∨ a=8 ∨ a=9 ∨ a=10:=by omega
 simp only[XN.f,XN.j0,XN.j1,Xbp.f,Xbj.f,Xbq.f,XM.f,specIn_eq,Option.bind_some,opOk,keyB,valB,clsB]
 generalize decide (0≤b∧b≤3)=kb
 generalize decide (1≤c∧c≤6)=vc
 generalize decide (0≤b∧b≤2)=cb
 generalize (b == 0)=b0
 generalize (c == 0)=c0
 rcases h' with rfl | rfl | rfl | rfl | rfl | rfl | rfl | rfl | rfl | rfl<;>cases kb<;>cases vc<;>cases cb<;>cases b0<;>cases c0<;>rfl
theorem Xbr (a b c:Int):Ev (fun k=>XN.f k a b c) (opOk a b c):=by
 by_cases h:1≤a∧a≤10
 ·refine Ev.shift (Ev.shift ?_)
  simp only[XbW a b c h]
  exact Ev.now _
 ·have:opOk a b c=false:=by
   unfold opOk
   rw[if_neg (by omega),if_neg (by omega),if_neg (by omega),if_neg (by omega),if_neg (by omega),if_neg (by omega),if_neg (by omega),if_neg (by omega),if_neg (by omega),if_neg (by omega)]
  rw[this]
  simp only[XN.f,specIn_eq,Option.bind_some,h,decide_false,Bool.false_eq_true,if_false]
  exact Ev.now _
theorem XbX (a b c:Int) (h:1≤a∧a≤10) (k:Nat):Xt.f (k+1+1+1) a b c=some (opOk a b c):=by
 have h':a=1 ∨ a=2 ∨ a=3 ∨ a=4 ∨ a=5 ∨ a=6 ∨ a=7 ∨ a=8 ∨ a=9 ∨ a=10:=by omega
 have e1:(if b=0 then some (c == 0) else some false)=some ((b == 0) && (c == 0)):=by by_cases hb:b=0<;>simp[hb]
 have e2:(if b=0 then some (decide (1≤c∧c≤6)) else some false)=some ((b == 0) && decide (1≤c∧c≤6)):=by by_cases hb:b=0<;>simp[hb]
 simp only[Xt.f,Xt.j0,Xt.j1,Xt.j2,XaP.f,XR.f,Xa3.f,implFrom_eq,Option.bind_some,opOk,keyB,valB,clsB,e1,e2]
 generalize decide (0≤b∧b≤3)=kb
 generalize decide (1≤c∧c≤6)=vc
 generalize decide (0≤b∧b≤2)=cb
 generalize (b == 0)=b0
 generalize (c == 0)=c0
 rcases h' with rfl | rfl | rfl | rfl | rfl | rfl | rfl | rfl | rfl | rfl<;>cases kb<;>cases vc<;>cases cb<;>cases b0<;>cases c0<;>rfl
theorem Xbo (a b c:Int):Ev (fun k=>Xt.f k a b c) (opOk a b c):=by
 refine Ev.shift (Ev.shift (Ev.shift ?_))
 by_cases h:1≤a∧a≤10
 ·simp only[XbX a b c h]
  exact Ev.now _
 ·have:opOk a b c=false:=by
   unfold opOk
   rw[if_neg (by omega),if_neg (by omega),if_neg (by omega),if_neg (by omega),if_neg (by omega),if_neg (by omega),if_neg (by omega),if_neg (by omega),if_neg (by omega),if_neg (by omega)]
  rw[this]
  have h1:¬ a=1:=by omega
  have h2:¬ a=2:=by omega
  have h3:¬ a=3:=by omega
  have h4:¬ a=4:=by omega
  have h5:¬ a=5:=by omega
  have h6:¬ a=6:=by omega
  have h7:¬ a=7:=by omega
  have h8:¬ a=8:=by omega
  have h9:¬ a=9:=by omega
  have h10:¬ a=10:=by omega
  simp only[Xt.f,Xt.j0,Xt.j1,Xt.j2,h1,h2,h3,h4,h5,h6,h7,h8,h9,h10,beq_iff_eq,if_false]
  exact Ev.now _
def i64in (n:Int):Prop:=-9223372036854775808≤n∧n<9223372036854775808
end Go.Proofs.YtmljebgideecjaaGreat.P2
