/- A part of the proof of the law FnExactReplay: texts of this seat, merged (words, printed functions of the program, plain lemmas). Conditions: none of its own. -/
import Derived.Test.YtmljebgideecjaaGreatP2kFnExactReplay18
set_option linter.unusedSimpArgs false
set_option linter.unusedVariables false
set_option maxHeartbeats 8000000
set_option maxRecDepth 100000
namespace Go.Proofs.YtmljebgideecjaaGreat.P2
open Go.Proofs.YtmljebgideecjaaGreatZ Go.RowKit Go.Proofs.YtmljebgideecjaaGreatW.PrintWords Go.Proofs.YtmljebgideecjaaGreatW.PrintLast Go.Proofs.YtmljebgideecjaaGreatW.PrintMore
attribute [local go_sem] max2_int min2_int max_two min_two max_three min_three max_four min_four   -- for this text's walks alone
def X2.l0:Nat→List Int→Int→Int→List Int→Int→Option (Bool)
 | 0,_,_,_,_,_=>none
 | k+1,x6,x7,x8,x102000,x102001=>if x8<x7 then (if 0≤x8 then (if x8<(x6.length:Int) then (if (rd x6 x8)=0 then (X2.l0 k x6 x7 (wrap64 (x8+1)) x102000 x102001) else ((XR.f (rd x6 x8)).bind fun t104=>(if t104=true then (if x8≤(x102000.length:Int) then ((slices_Contains_int_int.f k (x102000.take (x8:Int).toNat) (rd x6 x8)).bind fun t106=>(if t106=true then (some false) else (X2.l0 k x6 x7 (wrap64 (x8+1)) x102000 x102001))) else (none)) else (some false)))) else (none)) else (none)) else (if (x102000.length:Int)=4 then ((Xd.f x102001 0 5).bind fun t102=>(some t102)) else (some false))
def X2.f (k:Nat) (l0_0:List Int) (a0_1:Int):Option (Bool):=X2.l0 k l0_0 (l0_0.length:Int) 0 l0_0 a0_1
theorem X2.calls (k:Nat) (A0_0:Option Addr) (c0_0:Nat) (l0_0:List Int) (a0_1:Int) (r:Bool) (w:World) (h0_0:Rw (Kd.int .i64) w A0_0 c0_0 l0_0) (H:X2.f k l0_0 a0_1=some r) :
  Calls Tryz.prog 103 #[.agg #[.slice A0_0 l0_0.length c0_0,.int .i64 a0_1]] w fun e w'=>e = .returned (.bool r)∧Below w.heap.size w w':=by
 have hu41:=Tryz.underlying41
 obtain⟨HR0_0,HC0_0⟩:=h0_0
 have HB:=aM (Below.refl w.heap.size w)
 unfold X2.f at H
 have H':=aM H
 clear H
 go_enter Tryz.func103,Tryz.ntmps103
 go_wp2_with (refine boxE 1 #[.slice A0_0 l0_0.length c0_0,.int .i64 a0_1] 41 ?_;intro gbz1 hg wz1 hbox hb;have BKz1:=aM (hbox);have GWz1:=aG hg HB;replace HB:=aS HB hb;clear hb hbox hg;have hczz1:=cZ2 BKz1.out)
 go_loopg [8] k (fun kq v8 w'=>∃ (x8_1:Int),v8 = .int .i64 x8_1∧Aside0 (X2.l0 kq l0_0 (l0_0.length:Int) x8_1 l0_0 a0_1=some r)∧Aside0 (kq≤k)∧Aside0 (w'.heap[gbz1]? = some (.cells #[(.slice A0_0 l0_0.length c0_0),.int .i64 a0_1] 41 (0,0)))∧Aside0 (Below w.heap.size w w'))
 case atStart=>exact⟨(0),rS,H',⟨Nat.le_refl _⟩,⟨(bX BKz1.out)⟩,⟨(hX HB.out)⟩⟩
 case round =>
  clear H'
  try clear hczz1
  obtain⟨x8_1,rfl,HA,HKy1,BKz1,HB⟩:=hrel
  cases gk with
  | zero=>exact absurd HA.out (by simp[X2.l0])
  | succ k1 =>
   have H:=HA.out
   clear HA
   simp only[X2.l0] at H
   revert H;refine iN ?_ ?_<;>intro c4b0 H
   ·revert H;refine eN ?_ ?_<;>intro c18b0 c18b1 H
    ·obtain rfl:=sI H
     have hczx1:=cZ2 BKz1.out
     exact fS
    replace H:=bE H;obtain⟨t102,A19,H⟩:=H
    obtain rfl:=sI H
    have hczx1:=cZ2 BKz1.out
    go_wp2_with (go_at_call 102;(with_reducible refine(Xd.calls _ _ _ _ _ A19.out).mono ?_);rintro e w' ⟨rfl,⟨nd,rfl⟩⟩)
    go_ret
    exact⟨rE,(hX HB.out)⟩
   replace H:=ifQ H;obtain⟨c5b0,H⟩:=H
   replace H:=ifQ H;obtain⟨c6b0,H⟩:=H
   revert H;refine eP ?_ ?_<;>intro c7b0 c7b1 H
   ·have H':=aM H
    clear H
    obtain⟨adx1,ex1,px1,qx1,hxx1⟩:=at_ic HR0_0 HB x8_1
    cases ex1
    go_wp2
    go_roundg k1
    case measure=>have:=HKy1.out;omega
    case rel=>exact⟨(wrap64 (x8_1+1)),rS,H',⟨by have:=HKy1.out;omega⟩,⟨(bX BKz1.out)⟩,⟨(hX HB.out)⟩⟩
   replace H:=bE H;obtain⟨t104,A8,H⟩:=H
   cases t104
   case false =>
    rw[if_neg nft] at H
    obtain rfl:=sI H
    obtain⟨adx1,ex1,px1,qx1,hxx1⟩:=at_ic HR0_0 HB x8_1
    cases ex1
    go_wp2_with (go_at_call 174;(with_reducible refine(XR.calls _ _ _ A8.out).mono ?_);rintro e w' ⟨rfl,⟨nd,rfl⟩⟩)
    go_ret
    exact⟨rE,(hX HB.out)⟩
   rw[if_pos rfl] at H
   have c10b0:=eq_true (odA:0≤x8_1)
   replace H:=ifP H;obtain⟨c11,H⟩:=H
   have c11b0:=eq_true c11
   have c11b1:=decide_eq_true c11
   clear c11
   replace H:=bE H;obtain⟨t106,A12,H⟩:=H
   obtain⟨adx1,ex1,px1,qx1,hxx1⟩:=at_ic HR0_0 HB x8_1
   cases ex1
   go_wp2_with (go_at_call 174;(with_reducible refine(XR.calls _ _ _ A8.out).mono ?_);rintro e w' ⟨rfl,⟨nd,rfl⟩⟩;have hczx1:=cZ2 BKz1.out;obtain⟨ix1,hix1,_,hszx1,_⟩:=info_parts info3;obtain⟨hcutx1,hAx1,hCx1⟩:=print_take_of (P:=Tryz.prog) (Value.int .i64) 0 28 3 .i64 Tryz.underlying28 hix1 hszx1 (some adx1) c0_0 l0_0 x8_1 (odA) (odA) HC0_0.out;have HRx1:=aM (Kd.C_of_reads (h1:=fun _=>rfl) (hAx1 _ (Kd.reads_of_C HR0_0.out)));have HCx1:=aM hCx1;clear hAx1 hCx1 hix1 hszx1;refine Stop.out ?_)
   refine⟨?_⟩
   cases t106
   case true =>
    rw[if_pos rfl] at H
    obtain rfl:=sI H
    go_wp2_with (go_at_call 175;refine calls_of_args (args':=#[.slice (some adx1) (l0_0.take (x8_1:Int).toNat).length c0_0,.int .i64 (rd l0_0 x8_1)]) (by first | (rw[show (l0_0.take (x8_1:Int).toNat).length=x8_1.toNat from (by rw[List.length_take];have h_:(x8_1:Int)≤(l0_0.length:Int):=odA;omega)]<;>rfl) | rfl) ?_;refine(slices_Contains_int_int.calls k1 _ _ (l0_0.take (x8_1:Int).toNat) (rd l0_0 x8_1) true _ (cC HRx1.out HB.out) HCx1.out A12.out).mono ?_;rintro e w' ⟨rfl,⟨nd,rfl⟩⟩)
    go_ret
    exact⟨rE,(hX HB.out)⟩
   rw[if_neg nft] at H
   have H':=aM H
   clear H
   go_wp2_with (go_at_call 175;refine calls_of_args (args':=#[.slice (some adx1) (l0_0.take (x8_1:Int).toNat).length c0_0,.int .i64 (rd l0_0 x8_1)]) (by first | (rw[show (l0_0.take (x8_1:Int).toNat).length=x8_1.toNat from (by rw[List.length_take];have h_:(x8_1:Int)≤(l0_0.length:Int):=odA;omega)]<;>rfl) | rfl) ?_;refine(slices_Contains_int_int.calls k1 _ _ (l0_0.take (x8_1:Int).toNat) (rd l0_0 x8_1) false _ (cC HRx1.out HB.out) HCx1.out A12.out).mono ?_;rintro e w' ⟨rfl,⟨nd,rfl⟩⟩)
   go_roundg k1
   case measure=>have:=HKy1.out;omega
   case rel=>exact⟨(wrap64 (x8_1+1)),rS,H',⟨by have:=HKy1.out;omega⟩,⟨(bX BKz1.out)⟩,⟨(hX HB.out)⟩⟩
mutual
def Xt.j0:Nat→Int→Bool→Int→Int→Int→Option (Bool)
 | 0,_,_,_,_,_=>none
 | k+1,x4,x5,x102000,x102001,x102002=>if x5=true then ((XaP.f x102001).bind fun t102=>(if t102=true then ((XR.f x102002).bind fun t103=>(some t103)) else (some false))) else (if x4=3 then (Xt.j1 k x4 (x4 == 3) x102000 x102001 x102002) else (Xt.j1 k x4 (x4 == 4) x102000 x102001 x102002))
def Xt.j1:Nat→Int→Bool→Int→Int→Int→Option (Bool)
 | 0,_,_,_,_,_=>none
 | k+1,x4,x16,x102000,x102001,x102002=>if x16=true then ((XaP.f x102001).bind fun t104=>(if t104=true then (some (x102002 == 0)) else (some false))) else (if x4=5 then (Xt.j2 k x4 (x4 == 5) x102000 x102001 x102002) else (Xt.j2 k x4 (x4 == 10) x102000 x102001 x102002))
def Xt.j2:Nat→Int→Bool→Int→Int→Int→Option (Bool)
 | 0,_,_,_,_,_=>none
 | k+1,x4,x27,x102000,x102001,x102002=>if x27=true then (if x102001=0 then ((XR.f x102002).bind fun t105=>(some t105)) else (some false)) else (if x4=6 then ((Xa3.f x102001).bind fun t106=>(if t106=true then (some (x102002 == 0)) else (some false))) else (if x4=7 then (if x102001=0 then (some (x102002 == 0)) else (some false)) else (if x4=8 then (if x102001=0 then (some (x102002 == 0)) else (some false)) else (if x4=9 then (if x102001=0 then (some (x102002 == 0)) else (some false)) else (some false)))))
end
def Xt.f (k:Nat) (a0_0:Int) (a0_1:Int) (a0_2:Int):Option (Bool):=if a0_0=1 then (Xt.j0 k a0_0 (a0_0 == 1) a0_0 a0_1 a0_2) else (Xt.j0 k a0_0 (a0_0 == 2) a0_0 a0_1 a0_2)
theorem Xt.calls (k:Nat) (a0_0:Int) (a0_1:Int) (a0_2:Int) (r:Bool) (w:World) (H:Xt.f k a0_0 a0_1 a0_2=some r) :
  Calls Tryz.prog 105 #[.agg #[.int .i64 a0_0,.int .i64 a0_1,.int .i64 a0_2]] w fun e w'=>e = .returned (.bool r)∧Below w.heap.size w w':=by
 have hu69:=Tryz.underlying69
 have HB:=aM (Below.refl w.heap.size w)
 unfold Xt.f at H
 have HC2:=aM H
 clear H
 go_enter Tryz.func105,Tryz.ntmps105
 go_upto_if 5 with((with_reducible refine gate_dst (N:=1) rfl ?_);refine boxE 1 #[.int .i64 a0_0,.int .i64 a0_1,.int .i64 a0_2] 69 ?_;intro gbz1 hg wz1 hbox hb;have BKz1:=aM (hbox);have GWz1:=aG hg HB;replace HB:=aS HB hb;clear hb hbox hg;have hczz1:=cZ3 BKz1.out)
 (try simp only[Act.put,List.setIfInBounds_toArray,List.set_cons_zero,List.set_cons_succ])
 go_cut [5] (fun vz1 wc=>∃ (kq:Nat) (x5_1:Bool),vz1 = .bool x5_1∧Aside0 (Xt.j0 kq a0_0 x5_1 a0_0 a0_1 a0_2=some r)∧Aside0 (kq≤k)∧Aside0 (wc.heap[gbz1]? = some (.cells #[.int .i64 a0_0,.int .i64 a0_1,.int .i64 a0_2] 69 (0,0)))∧Aside0 (Below w.heap.size w wc))
 case first =>
  have H:=HC2.out
  clear HC2
  revert H;refine eN ?_ ?_<;>intro c5b0 c5b1 H
  ·(first | rw[c5b0] | (simp only[i64_w,i32_w];rw[c5b0]) | skip)
   have H':=aM H
   clear H
   go_wp2
   go_meet
   case rel=>exact⟨_,((a0_0 == 2)),rS,H',⟨by first | omega | exact Nat.le_refl _⟩,⟨(bX BKz1.out)⟩,⟨(hX HB.out)⟩⟩
  (first | rw[c5b0] | (simp only[i64_w,i32_w];rw[c5b0]) | skip)
  have H':=aM H
  clear H
  go_wp2
  go_meet
  case rel=>exact⟨_,((a0_0 == 1)),rS,H',⟨by first | omega | exact Nat.le_refl _⟩,⟨(bX BKz1.out)⟩,⟨(hX HB.out)⟩⟩
 case rest =>
  clear HC2
  try clear hczz1
  obtain⟨kq,x5_1,rfl,HA,HJy1,BKz1,HB⟩:=hcut
  cases kq with
  | zero=>exact absurd HA.out (by simp[Xt.j0])
  | succ kj1 =>
   have H:=HA.out
   clear HA
   simp only[Xt.j0] at H
   cases x5_1
   case true =>
    rw[if_pos rfl] at H
    replace H:=bE H;obtain⟨t102,A7,H⟩:=H
    cases t102
    case false =>
     rw[if_neg nft] at H
     obtain rfl:=sI H
     have hczx1:=cZ3 BKz1.out
     go_wp2_with (refine gD 176 10 Tryz.func176 (XaP.calls _ _ _ A7.out) ?_;intro nd)
     go_ret
     exact⟨rE,(hX HB.out)⟩
    rw[if_pos rfl] at H
    replace H:=bE H;obtain⟨t103,A9,H⟩:=H
    obtain rfl:=sI H
    have hczx1:=cZ3 BKz1.out
    go_wp2_with (first | (refine gD 176 10 Tryz.func176 (XaP.calls _ _ _ A7.out) ?_;intro nd) | (go_at_call 174;(with_reducible refine(XR.calls _ _ _ A9.out).mono ?_);rintro e w' ⟨rfl,⟨nd,rfl⟩⟩))
    go_ret
    exact⟨rE,(hX HB.out)⟩
   rw[if_neg nft] at H
   have HC12:=aM H
   clear H
   go_upto_if 16 with(fail)
   go_cut [16] (fun vx1 wc=>∃ (kq:Nat) (x16_11:Bool),vx1 = .bool x16_11∧Aside0 (Xt.j1 kq a0_0 x16_11 a0_0 a0_1 a0_2=some r)∧Aside0 (kq≤kj1)∧Aside0 (wc.heap[gbz1]? = some (.cells #[.int .i64 a0_0,.int .i64 a0_1,.int .i64 a0_2] 69 (0,0)))∧Aside0 (Below w.heap.size w wc))
   case first =>
    have H:=HC12.out
    clear HC12
    revert H;refine eN ?_ ?_<;>intro c13b0 c13b1 H
    ·(first | rw[c13b0] | (simp only[i64_w,i32_w];rw[c13b0]) | skip)
     have H':=aM H
     clear H
     go_wp2
     go_meet
     case rel=>exact⟨_,((a0_0 == 4)),rS,H',⟨by have:=HJy1.out;first | omega | exact Nat.le_refl _⟩,⟨(bX BKz1.out)⟩,⟨(hX HB.out)⟩⟩
    (first | rw[c13b0] | (simp only[i64_w,i32_w];rw[c13b0]) | skip)
    have H':=aM H
    clear H
    go_wp2
    go_meet
    case rel=>exact⟨_,((a0_0 == 3)),rS,H',⟨by have:=HJy1.out;first | omega | exact Nat.le_refl _⟩,⟨(bX BKz1.out)⟩,⟨(hX HB.out)⟩⟩
   case rest =>
    clear HC12
    try clear hczz1
    obtain⟨kq,x16_11,rfl,HA,HJw1,BKz1,HB⟩:=hcut
    cases kq with
    | zero=>exact absurd HA.out (by simp[Xt.j1])
    | succ kj11 =>
     have H:=HA.out
     clear HA
     simp only[Xt.j1] at H
     cases x16_11
     case true =>
      rw[if_pos rfl] at H
      replace H:=bE H;obtain⟨t104,A15,H⟩:=H
      cases t104
      case true =>
       rw[if_pos rfl] at H
       obtain rfl:=sI H
       have hczv1:=cZ3 BKz1.out
       go_wp2_with (refine gD 176 21 Tryz.func176 (XaP.calls _ _ _ A15.out) ?_;intro nd)
       go_ret
       exact⟨rE,(hX HB.out)⟩
      rw[if_neg nft] at H
      obtain rfl:=sI H
      have hczv1:=cZ3 BKz1.out
      go_wp2_with (refine gD 176 21 Tryz.func176 (XaP.calls _ _ _ A15.out) ?_;intro nd)
      go_ret
      exact⟨rE,(hX HB.out)⟩
     rw[if_neg nft] at H
     have HC19:=aM H
     clear H
     go_upto_if 27 with(fail)
     go_cut [27] (fun vv1 wc=>∃ (kq:Nat) (x27_18:Bool),vv1 = .bool x27_18∧Aside0 (Xt.j2 kq a0_0 x27_18 a0_0 a0_1 a0_2=some r)∧Aside0 (kq≤kj11)∧Aside0 (wc.heap[gbz1]? = some (.cells #[.int .i64 a0_0,.int .i64 a0_1,.int .i64 a0_2] 69 (0,0)))∧Aside0 (Below w.heap.size w wc))
     case first =>
      have H:=HC19.out
      clear HC19
      revert H;refine eN ?_ ?_<;>intro c20b0 c20b1 H
      ·(first | rw[c20b0] | (simp only[i64_w,i32_w];rw[c20b0]) | skip)
       have H':=aM H
       clear H
       go_wp2
       go_meet
       case rel=>exact⟨_,((a0_0 == 10)),rS,H',⟨by have:=HJy1.out;have:=HJw1.out;first | omega | exact Nat.le_refl _⟩,⟨(bX BKz1.out)⟩,⟨(hX HB.out)⟩⟩
      (first | rw[c20b0] | (simp only[i64_w,i32_w];rw[c20b0]) | skip)
      have H':=aM H
      clear H
      go_wp2
      go_meet
      case rel=>exact⟨_,((a0_0 == 5)),rS,H',⟨by have:=HJy1.out;have:=HJw1.out;first | omega | exact Nat.le_refl _⟩,⟨(bX BKz1.out)⟩,⟨(hX HB.out)⟩⟩
     case rest =>
      clear HC19
      try clear hczz1
      obtain⟨kq,x27_18,rfl,HA,HJu1,BKz1,HB⟩:=hcut
      cases kq with
      | zero=>exact absurd HA.out (by simp[Xt.j2])
      | succ kj18 =>
       have H:=HA.out
       clear HA
       simp only[Xt.j2] at H
       cases x27_18
       case true =>
        rw[if_pos rfl] at H
        revert H;refine eN ?_ ?_<;>intro c22b0 c22b1 H
        ·obtain rfl:=sI H
         have hczt1:=cZ3 BKz1.out
         exact fS
        replace H:=bE H;obtain⟨t105,A23,H⟩:=H
        obtain rfl:=sI H
        have hczt1:=cZ3 BKz1.out
        go_wp2_with (go_at_call 174;(with_reducible refine(XR.calls _ _ _ A23.out).mono ?_);rintro e w' ⟨rfl,⟨nd,rfl⟩⟩)
        go_ret
        exact⟨rE,(hX HB.out)⟩
       rw[if_neg nft] at H
       revert H;refine eP ?_ ?_<;>intro c26b0 c26b1 H
       ·replace H:=bE H;obtain⟨t106,A27,H⟩:=H
        cases t106
        case true =>
         rw[if_pos rfl] at H
         obtain rfl:=sI H
         have hczt1:=cZ3 BKz1.out
         go_wp2_with (refine gD 177 42 Tryz.func177 (Xa3.calls _ _ _ A27.out) ?_;intro nd)
         go_ret
         exact⟨rE,(hX HB.out)⟩
        rw[if_neg nft] at H
        obtain rfl:=sI H
        have hczt1:=cZ3 BKz1.out
        go_wp2_with (refine gD 177 42 Tryz.func177 (Xa3.calls _ _ _ A27.out) ?_;intro nd)
        go_ret
        exact⟨rE,(hX HB.out)⟩
       revert H;refine eP ?_ ?_<;>intro c31b0 c31b1 H
       ·revert H;refine eN ?_ ?_<;>intro c32b0 c32b1 H
        ·obtain rfl:=sI H
         have hczt1:=cZ3 BKz1.out
         exact fS
        obtain rfl:=sI H
        have hczt1:=cZ3 BKz1.out
        exact fS
       revert H;refine eP ?_ ?_<;>intro c35b0 c35b1 H
       ·revert H;refine eN ?_ ?_<;>intro c36b0 c36b1 H
        ·obtain rfl:=sI H
         have hczt1:=cZ3 BKz1.out
         exact fS
        obtain rfl:=sI H
        have hczt1:=cZ3 BKz1.out
        exact fS
       revert H;refine eN ?_ ?_<;>intro c39b0 c39b1 H
       ·obtain rfl:=sI H
        exact fS
       revert H;refine eN ?_ ?_<;>intro c40b0 c40b1 H
       ·obtain rfl:=sI H
        have hczt1:=cZ3 BKz1.out
        exact fS
       obtain rfl:=sI H
       have hczt1:=cZ3 BKz1.out
       exact fS
def XaB.f (a0_0:Int) (a0_1:Int):Option (Bool):=(Xah.f a0_0).bind fun t102=>(if t102=true then ((XE.f a0_1).bind fun t103=>(some (!t103))) else (some true))
theorem XaB.calls (a0_0:Int) (a0_1:Int) (r:Bool) (w:World) (H:XaB.f a0_0 a0_1=some r) :
  Calls Tryz.prog 181 #[.agg #[.int .i64 a0_0,.int .i64 a0_1]] w fun e w'=>e = .returned (.bool r)∧Below w.heap.size w w':=by
 have hu172:=Tryz.underlying172
 have HB:=aM (Below.refl w.heap.size w)
 unfold XaB.f at H
 replace H:=bE H;obtain⟨t102,A2,H⟩:=H
 go_enter Tryz.func181,Tryz.ntmps181
 go_wp2_with (refine boxE 1 #[.int .i64 a0_0,.int .i64 a0_1] 172 ?_;intro gbz1 hg wz1 hbox hb;have BKz1:=aM (hbox);have GWz1:=aG hg HB;replace HB:=aS HB hb;clear hb hbox hg;have hczz1:=cZ2 BKz1.out;refine Stop.out ?_)
 refine⟨?_⟩
 cases t102
 case false =>
  rw[if_neg nft] at H
  obtain rfl:=sI H
  go_wp2_with (refine gD 182 5 Tryz.func182 (Xah.calls _ _ _ A2.out) ?_;intro nd)
  go_ret
  exact⟨rE,(hX HB.out)⟩
 rw[if_pos rfl] at H
 replace H:=bE H;obtain⟨t103,A4,H⟩:=H
 obtain rfl:=sI H
 go_wp2_with (first | (refine gD 182 5 Tryz.func182 (Xah.calls _ _ _ A2.out) ?_;intro nd) | (go_at_call 183;(with_reducible refine(XE.calls _ _ _ A4.out).mono ?_);rintro e w' ⟨rfl,⟨nd,rfl⟩⟩))
 go_ret
 exact⟨rE,(hX HB.out)⟩
def XF.l0:Nat→List (S174)→Int→Int→Int→Option (Int)
 | 0,_,_,_,_=>none
 | k+1,x0,x7,x8,x9002000=>if x8<x7 then (if 0≤x8 then (if x8<(x0.length:Int) then ((XaA.f ((rd_T174 x0 x8).f0) ((rd_T174 x0 x8).f1) ((rd_T174 x0 x8).f2) ((rd_T174 x0 x8).f3) x9002000).bind fun t102=>(if t102=true then (some x8) else (XF.l0 k x0 x7 (wrap64 (x8+1)) x9002000))) else (none)) else (none)) else (some (-1))
def XF.f (k:Nat) (l0:List (S174)) (a1:Int):Option (Int):=XF.l0 k l0 (l0.length:Int) 0 a1
theorem XF.calls (k:Nat) (A0:Option Addr) (c0:Nat) (l0:List (S174)) (gc1:Nat) (a1:Int) (r:Int) (w:World) (h0:Rw k174 w A0 c0 l0) (hbc1:w.heap[gc1]? = some (.cells #[.int .i64 a1] 3 (0,0))) (H:XF.f k l0 a1=some r) :
  Calls Tryz.prog 212 #[.slice A0 l0.length c0,.func (.func 185) #[] #[.pointer (some ⟨gc1,0,none⟩)]] w fun e w'=>e = .returned (.int .i64 r)∧Below w.heap.size w w':=by
 have hu174:=Tryz.underlying174
 obtain⟨HR0,HC0⟩:=h0
 have BKz1:=aM hbc1
 clear hbc1
 have HB:=aM (Below.refl w.heap.size w)
 unfold XF.f at H
 have H':=aM H
 clear H
 go_enter Tryz.func212,Tryz.ntmps212
 go_wp2
 go_loopg [8] k (fun kq v8 w'=>∃ (x8_1:Int),v8 = .int .i64 x8_1∧Aside0 (XF.l0 kq l0 (l0.length:Int) x8_1 a1=some r)∧Aside0 (kq≤k)∧Aside0 (w'.heap[gc1]? = some (.cells #[.int .i64 a1] 3 (0,0)))∧Aside0 (Below w.heap.size w w'))
 case atStart=>exact⟨(0),rS,H',⟨Nat.le_refl _⟩,⟨(bX BKz1.out)⟩,⟨(hX HB.out)⟩⟩
 case round =>
  clear H'
  obtain⟨x8_1,rfl,HA,HKy1,BKz1,HB⟩:=hrel
  cases gk with
  | zero=>exact absurd HA.out (by simp[XF.l0])
  | succ k1 =>
   have H:=HA.out
   clear HA
   simp only[XF.l0] at H
   revert H;refine iN ?_ ?_<;>intro c3b0 H
   ·obtain rfl:=sI H
    exact fS
   replace H:=ifQ H;obtain⟨c4b0,H⟩:=H
   replace H:=ifQ H;obtain⟨c5b0,H⟩:=H
   replace H:=bE H;obtain⟨t102,A6,H⟩:=H
   cases t102
   case true =>
    rw[if_pos rfl] at H
    obtain rfl:=sI H
    obtain⟨adx1,ex1,px1,qx1,hxx1⟩:=at_T174c HR0 HB x8_1
    cases ex1
    go_wp2_with ((with_reducible refine Go.Proofs.YtmljebgideecjaaGreatZ.gate_calleeT (t:=11) rfl ?_);refine Go.Proofs.YtmljebgideecjaaGreatZ.goesTC_ (some 16) 11 rfl rfl Tryz.func185 (by kernel_rfl) rfl #[.agg #[.int .i64 ((rd_T174 l0 x8_1).f0),.int .i64 ((rd_T174 l0 x8_1).f1),.int .i64 ((rd_T174 l0 x8_1).f2),.int .i64 ((rd_T174 l0 x8_1).f3)]] #[.pointer (some ⟨gc1,0,none⟩)] #[.agg #[.int .i64 ((rd_T174 l0 x8_1).f0),.int .i64 ((rd_T174 l0 x8_1).f1),.int .i64 ((rd_T174 l0 x8_1).f2),.int .i64 ((rd_T174 l0 x8_1).f3)],.pointer (some ⟨gc1,0,none⟩)] rfl rfl (by (try simp only[List.map_toArray,List.map_cons,List.map_nil]);first | done | rfl | (simp only[List.length_drop,List.length_take];rfl)) rfl ?_;(with_reducible refine(XaA.calls ((rd_T174 l0 x8_1).f0) ((rd_T174 l0 x8_1).f1) ((rd_T174 l0 x8_1).f2) ((rd_T174 l0 x8_1).f3) gc1 a1 true _ ?side1 A6.out).mono ?_);(case side1=>exact(bX BKz1.out));rintro e wx1 ⟨rfl,hb⟩;refine⟨_,rfl,?_⟩;replace BKz1:=aB BKz1 hb;replace HB:=aS HB hb;clear hb)
    go_ret
    exact⟨rE,(hX HB.out)⟩
   rw[if_neg nft] at H
   have H':=aM H
   clear H
   obtain⟨adx1,ex1,px1,qx1,hxx1⟩:=at_T174c HR0 HB x8_1
   cases ex1
   go_wp2_with ((with_reducible refine Go.Proofs.YtmljebgideecjaaGreatZ.gate_calleeT (t:=11) rfl ?_);refine Go.Proofs.YtmljebgideecjaaGreatZ.goesTC_ (some 16) 11 rfl rfl Tryz.func185 (by kernel_rfl) rfl #[.agg #[.int .i64 ((rd_T174 l0 x8_1).f0),.int .i64 ((rd_T174 l0 x8_1).f1),.int .i64 ((rd_T174 l0 x8_1).f2),.int .i64 ((rd_T174 l0 x8_1).f3)]] #[.pointer (some ⟨gc1,0,none⟩)] #[.agg #[.int .i64 ((rd_T174 l0 x8_1).f0),.int .i64 ((rd_T174 l0 x8_1).f1),.int .i64 ((rd_T174 l0 x8_1).f2),.int .i64 ((rd_T174 l0 x8_1).f3)],.pointer (some ⟨gc1,0,none⟩)] rfl rfl (by (try simp only[List.map_toArray,List.map_cons,List.map_nil]);first | done | rfl | (simp only[List.length_drop,List.length_take];rfl)) rfl ?_;(with_reducible refine(XaA.calls ((rd_T174 l0 x8_1).f0) ((rd_T174 l0 x8_1).f1) ((rd_T174 l0 x8_1).f2) ((rd_T174 l0 x8_1).f3) gc1 a1 false _ ?side1 A6.out).mono ?_);(case side1=>exact(bX BKz1.out));rintro e wx1 ⟨rfl,hb⟩;refine⟨_,rfl,?_⟩;replace BKz1:=aB BKz1 hb;replace HB:=aS HB hb;clear hb)
   go_roundg k1
   case measure=>have:=HKy1.out;omega
   case rel=>exact⟨(wrap64 (x8_1+1)),rS,H',⟨by have:=HKy1.out;omega⟩,⟨(bX BKz1.out)⟩,⟨(hX HB.out)⟩⟩
end Go.Proofs.YtmljebgideecjaaGreat.P2
