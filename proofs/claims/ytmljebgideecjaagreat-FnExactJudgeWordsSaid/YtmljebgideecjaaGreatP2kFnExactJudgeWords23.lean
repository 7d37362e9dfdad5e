/- A part of the proof of the law FnExactJudgeWords: texts of this seat, merged (words, printed functions of the program, plain lemmas). Conditions: none of its own. -/
import Derived.Test.YtmljebgideecjaaGreatP2kFnExactJudgeWords13
import Derived.Test.YtmljebgideecjaaGreatP2kFnExactJudgeWords14
import Derived.Test.YtmljebgideecjaaGreatP2kFnExactJudgeWords16
import Derived.Test.YtmljebgideecjaaGreatP2kFnExactJudgeWords17
set_option linter.unusedSimpArgs false
set_option linter.unusedVariables false
set_option maxHeartbeats 8000000
set_option maxRecDepth 100000
namespace Go.Proofs.YtmljebgideecjaaGreat.P2
open Go.Proofs.YtmljebgideecjaaGreatZ Go.RowKit Go.Proofs.YtmljebgideecjaaGreatW.PrintWords Go.Proofs.YtmljebgideecjaaGreatW.PrintLast Go.Proofs.YtmljebgideecjaaGreatW.PrintMore
attribute [local go_sem] max2_int min2_int max_two min_two max_three min_three max_four min_four   -- for this text's walks alone
mutual
def Xk.j0:Nat→Int→Int→Bool→List Int→Int→Int→Int→Int→Option (Bool)
 | 0,_,_,_,_,_,_,_,_=>none
 | k+1,x2,x7,x42,x102000,x102001,x103000,x103001,x103002=>if x42=true then (if 0≤x103001 then (if x103001<(x102000.length:Int) then (some ((rd x102000 x103001) == 0)) else (none)) else (none)) else (if x2=3 then (if x7<0 then (if x103000=5 then (some true) else (if x103000=10 then ((Xam.f x102000 x102001).bind fun t106=>(some t106)) else (some false))) else (some false)) else (if x2=4 then (Xk.j1 k x2 (x103000 == 8) x102000 x102001 x103000 x103001 x103002) else (Xk.j1 k x2 false x102000 x102001 x103000 x103001 x103002)))
def Xk.j1:Nat→Int→Bool→List Int→Int→Int→Int→Int→Option (Bool)
 | 0,_,_,_,_,_,_,_=>none
 | k+1,x2,x86,x102000,x102001,x103000,x103001,x103002=>if x86=true then (some (x102001 != 0)) else (if x2=4 then (Xk.j2 k x2 (x103000 == 9) x102000 x102001 x103000 x103001 x103002) else (Xk.j2 k x2 false x102000 x102001 x103000 x103001 x103002))
def Xk.j2:Nat→Int→Bool→List Int→Int→Int→Int→Int→Option (Bool)
 | 0,_,_,_,_,_,_,_=>none
 | k+1,x2,x97,x102000,x102001,x103000,x103001,x103002=>if x97=true then (if x102001=0 then (some true) else ((Xam.f x102000 x102001).bind fun t107=>(some t107))) else (if x2=4 then (if x103000=10 then ((Xam.f x102000 x102001).bind fun t108=>(some (!t108))) else (some false)) else (some false))
end
def Xk.f (k:Nat) (l0_0:List Int) (a0_1:Int) (a1_0:Int) (a1_1:Int) (a1_2:Int) (a2:Int):Option (Bool):=(Xad.f k l0_0 a0_1 a1_2).bind fun t103=>(if a2=1 then (if a1_0=1 then (if 0≤a1_1 then (if a1_1<(l0_0.length:Int) then (some ((rd l0_0 a1_1) != 0)) else (none)) else (none)) else (some false)) else (if a2=2 then (if a1_0=1 then (some (decide (t103 ≥ 0))) else (if a1_0=2 then (some (decide (t103 ≥ 0))) else (some false))) else (if a2=3 then (if a1_0=2 then (Xk.j0 k a2 t103 true l0_0 a0_1 a1_0 a1_1 a1_2) else (if a1_0=3 then (Xk.j0 k a2 t103 true l0_0 a0_1 a1_0 a1_1 a1_2) else (Xk.j0 k a2 t103 (a1_0 == 4) l0_0 a0_1 a1_0 a1_1 a1_2))) else (Xk.j0 k a2 t103 false l0_0 a0_1 a1_0 a1_1 a1_2))))
theorem Xk.calls (k:Nat) (A0_0:Option Addr) (c0_0:Nat) (l0_0:List Int) (a0_1:Int) (a1_0:Int) (a1_1:Int) (a1_2:Int) (a2:Int) (r:Bool) (w:World) (h0_0:Rw (Kd.int .i64) w A0_0 c0_0 l0_0) (H:Xk.f k l0_0 a0_1 a1_0 a1_1 a1_2 a2=some r) :
  Calls Tryz.prog 141 #[.agg #[.slice A0_0 l0_0.length c0_0,.int .i64 a0_1],.agg #[.int .i64 a1_0,.int .i64 a1_1,.int .i64 a1_2],.int .i64 a2] w fun e w'=>e = .returned (.bool r)∧Below w.heap.size w w':=by
 have hu41:=Tryz.underlying41
 have hu69:=Tryz.underlying69
 obtain⟨HR0_0,HC0_0⟩:=h0_0
 have HB:=aM (Below.refl w.heap.size w)
 unfold Xk.f at H
 replace H:=bE H;obtain⟨t103,A4,H⟩:=H
 go_enter Tryz.func141,Tryz.ntmps141
 revert H;refine eP ?_ ?_<;>intro c5b0 c5b1 H
 ·go_wp2_with (first | (refine boxE 3 #[.slice A0_0 l0_0.length c0_0,.int .i64 a0_1] 41 ?_;intro gbz1 hg wz1 hbox hb;have BKz1:=aM (hbox);have GWz1:=aG hg HB;have GEz1:=aG hg HB;replace HB:=aS HB hb;clear hb hbox hg) | (refine boxE 4 #[.int .i64 a1_0,.int .i64 a1_1,.int .i64 a1_2] 69 ?_;intro gbz2 hg wz2 hbox hb;have BKz2:=aM (hbox);have GWz2:=aG hg HB;have GEz2:=aG hg HB;have NBz1:=aL hg BKz1;have NBz2:=aR hg BKz1;replace BKz1:=aB BKz1 hb;replace HB:=aS HB hb;clear hb hbox hg;have hnbz1:=NBz1.out;have hncz1:=NBz2.out;have hczz1:=cZ2 BKz1.out;have hczz3:=cZ3 BKz2.out;refine Stop.out ?_))
  refine⟨?_⟩
  revert H;refine eN ?_ ?_<;>intro c6b0 c6b1 H
  ·obtain rfl:=sI H
   go_wp2_with (refine gB 199 11 Tryz.func199 (Xad.calls _ _ _ _ _ _ _ _ (rW HR0_0 HB HC0_0) A4.out) ?_;intro wz3 hb;replace BKz1:=aB BKz1 hb;replace BKz2:=aB BKz2 hb;replace HB:=aS HB hb;clear hb;have hczz6:=cZ3 BKz2.out)
   go_ret
   exact⟨rE,(hX HB.out)⟩
  replace H:=ifQ H;obtain⟨c7b0,H⟩:=H
  replace H:=ifQ H;obtain⟨c8b0,H⟩:=H
  obtain rfl:=sI H
  go_wp2_with (refine gB 199 11 Tryz.func199 (Xad.calls _ _ _ _ _ _ _ _ (rW HR0_0 HB HC0_0) A4.out) ?_;intro wz3 hb;replace BKz1:=aB BKz1 hb;replace BKz2:=aB BKz2 hb;replace HB:=aS HB hb;clear hb;have hczz6:=cZ3 BKz2.out;have hczz9:=cZ2 BKz1.out;have pz1:0≤(a1_1:Int):=odA;have qz1:a1_1<(l0_0.length:Int):=odA;obtain⟨adz1,ez1,hxz1⟩:=Kd.at_int HR0_0.out a1_1 pz1 qz1;cases ez1;replace hxz1:=bc HB.out hxz1;replace pz1:=eq_true pz1;replace qz1:=eq_true qz1)
  go_ret
  exact⟨rE,(hX HB.out)⟩
 revert H;refine eP ?_ ?_<;>intro c24b0 c24b1 H
 ·go_wp2_with (first | (refine boxE 3 #[.slice A0_0 l0_0.length c0_0,.int .i64 a0_1] 41 ?_;intro gbz1 hg wz1 hbox hb;have BKz1:=aM (hbox);have GWz1:=aG hg HB;have GEz1:=aG hg HB;replace HB:=aS HB hb;clear hb hbox hg) | (refine boxE 4 #[.int .i64 a1_0,.int .i64 a1_1,.int .i64 a1_2] 69 ?_;intro gbz2 hg wz2 hbox hb;have BKz2:=aM (hbox);have GWz2:=aG hg HB;have GEz2:=aG hg HB;have NBz1:=aL hg BKz1;have NBz2:=aR hg BKz1;replace BKz1:=aB BKz1 hb;replace HB:=aS HB hb;clear hb hbox hg;have hnbz1:=NBz1.out;have hncz1:=NBz2.out;have hczz1:=cZ2 BKz1.out;have hczz3:=cZ3 BKz2.out) | (refine gB 199 11 Tryz.func199 (Xad.calls _ _ _ _ _ _ _ _ (rW HR0_0 HB HC0_0) A4.out) ?_;intro wz3 hb;replace BKz1:=aB BKz1 hb;replace BKz2:=aB BKz2 hb;replace HB:=aS HB hb;clear hb;have hczz6:=cZ3 BKz2.out;refine Stop.out ?_))
  refine⟨?_⟩
  revert H;refine eP ?_ ?_<;>intro c25b0 c25b1 H
  ·obtain rfl:=sI H
   exact fS
  revert H;refine eN ?_ ?_<;>intro c33b0 c33b1 H
  ·obtain rfl:=sI H
   exact fS
  exact fR
 have HC48:=aM H
 clear H
 go_upto_region 6 with(first | ((with_reducible refine gate_dst (N:=3) rfl ?_);refine boxE 3 #[.slice A0_0 l0_0.length c0_0,.int .i64 a0_1] 41 ?_;intro gbz1 hg wz1 hbox hb;have BKz1:=aM (hbox);have GWz1:=aG hg HB;have GEz1:=aG hg HB;replace HB:=aS HB hb;clear hb hbox hg) | ((with_reducible refine gate_dst (N:=4) rfl ?_);refine boxE 4 #[.int .i64 a1_0,.int .i64 a1_1,.int .i64 a1_2] 69 ?_;intro gbz2 hg wz2 hbox hb;have BKz2:=aM (hbox);have GWz2:=aG hg HB;have GEz2:=aG hg HB;have NBz1:=aL hg BKz1;have NBz2:=aR hg BKz1;replace BKz1:=aB BKz1 hb;replace HB:=aS HB hb;clear hb hbox hg;have hnbz1:=NBz1.out;have hncz1:=NBz2.out;have hczz1:=cZ2 BKz1.out;have hczz3:=cZ3 BKz2.out) | ((with_reducible refine gate_callee (f:=199) rfl ?_);refine gB 199 11 Tryz.func199 (Xad.calls _ _ _ _ _ _ _ _ (rW HR0_0 HB HC0_0) A4.out) ?_;intro wz3 hb;replace BKz1:=aB BKz1 hb;replace BKz2:=aB BKz2 hb;replace HB:=aS HB hb;clear hb))
 (try simp only[Act.put,List.setIfInBounds_toArray,List.set_cons_zero,List.set_cons_succ])
 go_cut [42] (fun vz1 wc=>∃ (kq:Nat) (x42_47:Bool),vz1 = .bool x42_47∧Aside0 (Xk.j0 kq a2 t103 x42_47 l0_0 a0_1 a1_0 a1_1 a1_2=some r)∧Aside0 (kq≤k)∧Aside0 (wc.heap[gbz1]? = some (.cells #[(.slice A0_0 l0_0.length c0_0),.int .i64 a0_1] 41 (0,0)))∧Aside0 (wc.heap[gbz2]? = some (.cells #[.int .i64 a1_0,.int .i64 a1_1,.int .i64 a1_2] 69 (0,0)))∧Aside0 (Below w.heap.size w wc))
 case first =>
  have H:=HC48.out
  clear HC48
  revert H;refine eN ?_ ?_<;>intro c55b0 c55b1 H
  ·(first | rw[c55b0] | (simp only[i64_w,i32_w];rw[c55b0]) | skip)
   have H':=aM H
   clear H
   go_wp2
   go_meet
   case rel=>exact⟨_,(false),rS,H',⟨by first | omega | exact Nat.le_refl _⟩,⟨(bX BKz1.out)⟩,⟨(bX BKz2.out)⟩,⟨(hX HB.out)⟩⟩
  (first | rw[c55b0] | (simp only[i64_w,i32_w];rw[c55b0]) | skip)
  revert H;refine eP ?_ ?_<;>intro c56b0 c56b1 H
  ·have H':=aM H
   clear H
   have hnby1:=NBz2.out
   have hncy1:=NBz1.out
   have hczy1:=cZ3 BKz2.out
   go_wp2
   go_meet
   case rel=>exact⟨_,(true),rS,H',⟨by first | omega | exact Nat.le_refl _⟩,⟨(bX BKz1.out)⟩,⟨(bX BKz2.out)⟩,⟨(hX HB.out)⟩⟩
  revert H;refine eN ?_ ?_<;>intro c59b0 c59b1 H
  ·have H':=aM H
   clear H
   have hnby1:=NBz2.out
   have hncy1:=NBz1.out
   have hczy1:=cZ3 BKz2.out
   go_wp2
   go_meet
   case rel=>exact⟨_,((a1_0 == 4)),rS,H',⟨by first | omega | exact Nat.le_refl _⟩,⟨(bX BKz1.out)⟩,⟨(bX BKz2.out)⟩,⟨(hX HB.out)⟩⟩
  have H':=aM H
  clear H
  have hnby1:=NBz2.out
  have hncy1:=NBz1.out
  have hczy1:=cZ3 BKz2.out
  go_wp2
  go_meet
  case rel=>exact⟨_,(true),rS,H',⟨by first | omega | exact Nat.le_refl _⟩,⟨(bX BKz1.out)⟩,⟨(bX BKz2.out)⟩,⟨(hX HB.out)⟩⟩
 case rest =>
  clear HC48
  try clear c5b0
  try clear c5b1
  try clear c24b0
  try clear c24b1
  try clear hczz1
  try clear hczz3
  obtain⟨kq,x42_47,rfl,HA,HJy1,BKz1,BKz2,HB⟩:=hcut
  cases kq with
  | zero=>exact absurd HA.out (by simp[Xk.j0])
  | succ kj47 =>
   have H:=HA.out
   clear HA
   simp only[Xk.j0] at H
   cases x42_47
   case true =>
    rw[if_pos rfl] at H
    replace H:=ifQ H;obtain⟨c65b0,H⟩:=H
    replace H:=ifQ H;obtain⟨c66b0,H⟩:=H
    obtain rfl:=sI H
    have hnbx1:=NBz1.out
    have hncx1:=NBz2.out
    have hczx1:=cZ2 BKz1.out
    have hczx3:=cZ3 BKz2.out
    obtain⟨adx1,ex1,px1,qx1,hxx1⟩:=at_ic HR0_0 HB a1_1
    cases ex1
    exact fS
   rw[if_neg nft] at H
   revert H;refine eP ?_ ?_<;>intro c70b0 c70b1 H
   ·revert H;refine iN ?_ ?_<;>intro c71b0 H
    ·obtain rfl:=sI H
     exact fS
    revert H;refine eP ?_ ?_<;>intro c72b0 c72b1 H
    ·obtain rfl:=sI H
     have hnbx1:=NBz2.out
     have hncx1:=NBz1.out
     have hczx1:=cZ3 BKz2.out
     exact fS
    revert H;refine eN ?_ ?_<;>intro c75b0 c75b1 H
    ·obtain rfl:=sI H
     have hnbx1:=NBz2.out
     have hncx1:=NBz1.out
     have hczx1:=cZ3 BKz2.out
     exact fS
    replace H:=bE H;obtain⟨t106,A76,H⟩:=H
    obtain rfl:=sI H
    have hnbx1:=NBz2.out
    have hncx1:=NBz1.out
    have hczx1:=cZ3 BKz2.out
    have hczx4:=cZ2 BKz1.out
    go_wp2_with (go_at_call 200;(with_reducible refine(Xam.calls _ _ _ _ _ _ (rW HR0_0 HB HC0_0) A76.out).mono ?_);rintro e wx1 ⟨rfl,hb⟩;replace BKz1:=aB BKz1 hb;replace BKz2:=aB BKz2 hb;replace HB:=aS HB hb;clear hb)
    go_ret
    exact⟨rE,(hX HB.out)⟩
   have HC83:=aM H
   clear H
   go_upto_region 10 with(fail)
   go_cut [86] (fun vx1 wc=>∃ (kq:Nat) (x86_82:Bool),vx1 = .bool x86_82∧Aside0 (Xk.j1 kq a2 x86_82 l0_0 a0_1 a1_0 a1_1 a1_2=some r)∧Aside0 (kq≤kj47)∧Aside0 (wc.heap[gbz1]? = some (.cells #[(.slice A0_0 l0_0.length c0_0),.int .i64 a0_1] 41 (0,0)))∧Aside0 (wc.heap[gbz2]? = some (.cells #[.int .i64 a1_0,.int .i64 a1_1,.int .i64 a1_2] 69 (0,0)))∧Aside0 (Below w.heap.size w wc))
   case first =>
    have H:=HC83.out
    clear HC83
    revert H;refine eN ?_ ?_<;>intro c84b0 c84b1 H
    ·(first | rw[c84b0] | (simp only[i64_w,i32_w];rw[c84b0]) | skip)
     have H':=aM H
     clear H
     go_wp2
     go_meet
     case rel=>exact⟨_,(false),rS,H',⟨by have:=HJy1.out;first | omega | exact Nat.le_refl _⟩,⟨(bX BKz1.out)⟩,⟨(bX BKz2.out)⟩,⟨(hX HB.out)⟩⟩
    (first | rw[c84b0] | (simp only[i64_w,i32_w];rw[c84b0]) | skip)
    have H':=aM H
    clear H
    have hnbw1:=nB NBz2 NBz1
    have hczw1:=cZ3 BKz2.out
    go_wp2
    go_meet
    case rel=>exact⟨_,((a1_0 == 8)),rS,H',⟨by have:=HJy1.out;first | omega | exact Nat.le_refl _⟩,⟨(bX BKz1.out)⟩,⟨(bX BKz2.out)⟩,⟨(hX HB.out)⟩⟩
   case rest =>
    clear HC83
    try clear c5b0
    try clear c5b1
    try clear c24b0
    try clear c24b1
    try clear c70b0
    try clear c70b1
    try clear hczz1
    try clear hczz3
    obtain⟨kq,x86_82,rfl,HA,HJw1,BKz1,BKz2,HB⟩:=hcut
    cases kq with
    | zero=>exact absurd HA.out (by simp[Xk.j1])
    | succ kj82 =>
     have H:=HA.out
     clear HA
     simp only[Xk.j1] at H
     cases x86_82
     case true =>
      rw[if_pos rfl] at H
      obtain rfl:=sI H
      have hnbv1:=nB NBz1 NBz2
      have hczv1:=cZ2 BKz1.out
      exact fS
     rw[if_neg nft] at H
     have HC90:=aM H
     clear H
     go_upto_region 12 with(fail)
     go_cut [97] (fun vv1 wc=>∃ (kq:Nat) (x97_89:Bool),vv1 = .bool x97_89∧Aside0 (Xk.j2 kq a2 x97_89 l0_0 a0_1 a1_0 a1_1 a1_2=some r)∧Aside0 (kq≤kj82)∧Aside0 (wc.heap[gbz1]? = some (.cells #[(.slice A0_0 l0_0.length c0_0),.int .i64 a0_1] 41 (0,0)))∧Aside0 (wc.heap[gbz2]? = some (.cells #[.int .i64 a1_0,.int .i64 a1_1,.int .i64 a1_2] 69 (0,0)))∧Aside0 (Below w.heap.size w wc))
     case first =>
      have H:=HC90.out
      clear HC90
      revert H;refine eN ?_ ?_<;>intro c91b0 c91b1 H
      ·(first | rw[c91b0] | (simp only[i64_w,i32_w];rw[c91b0]) | skip)
       have H':=aM H
       clear H
       go_wp2
       go_meet
       case rel=>exact⟨_,(false),rS,H',⟨by have:=HJy1.out;have:=HJw1.out;first | omega | exact Nat.le_refl _⟩,⟨(bX BKz1.out)⟩,⟨(bX BKz2.out)⟩,⟨(hX HB.out)⟩⟩
      (first | rw[c91b0] | (simp only[i64_w,i32_w];rw[c91b0]) | skip)
      have H':=aM H
      clear H
      have hnbu1:=nB NBz2 NBz1
      have hczu1:=cZ3 BKz2.out
      go_wp2
      go_meet
      case rel=>exact⟨_,((a1_0 == 9)),rS,H',⟨by have:=HJy1.out;have:=HJw1.out;first | omega | exact Nat.le_refl _⟩,⟨(bX BKz1.out)⟩,⟨(bX BKz2.out)⟩,⟨(hX HB.out)⟩⟩
     case rest =>
      clear HC90
      try clear c5b0
      try clear c5b1
      try clear c24b0
      try clear c24b1
      try clear c70b0
      try clear c70b1
      try clear hczz1
      try clear hczz3
      obtain⟨kq,x97_89,rfl,HA,HJu1,BKz1,BKz2,HB⟩:=hcut
      cases kq with
      | zero=>exact absurd HA.out (by simp[Xk.j2])
      | succ kj89 =>
       have H:=HA.out
       clear HA
       simp only[Xk.j2] at H
       cases x97_89
       case true =>
        rw[if_pos rfl] at H
        revert H;refine eP ?_ ?_<;>intro c95b0 c95b1 H
        ·obtain rfl:=sI H
         have hnbt1:=NBz1.out
         have hnct1:=NBz2.out
         have hczt1:=cZ2 BKz1.out
         exact fS
        replace H:=bE H;obtain⟨t107,A98,H⟩:=H
        obtain rfl:=sI H
        have hnbt1:=NBz1.out
        have hnct1:=NBz2.out
        have hczt1:=cZ2 BKz1.out
        go_wp2_with (go_at_call 200;(with_reducible refine(Xam.calls _ _ _ _ _ _ (rW HR0_0 HB HC0_0) A98.out).mono ?_);rintro e wt1 ⟨rfl,hb⟩;replace BKz1:=aB BKz1 hb;replace BKz2:=aB BKz2 hb;replace HB:=aS HB hb;clear hb)
        go_ret
        exact⟨rE,(hX HB.out)⟩
       rw[if_neg nft] at H
       revert H;refine eN ?_ ?_<;>intro c102b0 c102b1 H
       ·obtain rfl:=sI H
        exact fS
       revert H;refine eN ?_ ?_<;>intro c103b0 c103b1 H
       ·obtain rfl:=sI H
        have hnbt1:=NBz2.out
        have hnct1:=NBz1.out
        have hczt1:=cZ3 BKz2.out
        exact fS
       replace H:=bE H;obtain⟨t108,A104,H⟩:=H
       obtain rfl:=sI H
       have hnbt1:=NBz2.out
       have hnct1:=NBz1.out
       have hczt1:=cZ3 BKz2.out
       have hczt4:=cZ2 BKz1.out
       go_wp2_with (refine gB 200 121 Tryz.func200 (Xam.calls _ _ _ _ _ _ (rW HR0_0 HB HC0_0) A104.out) ?_;intro wt1 hb;replace BKz1:=aB BKz1 hb;replace BKz2:=aB BKz2 hb;replace HB:=aS HB hb;clear hb)
       go_ret
       exact⟨rE,(hX HB.out)⟩
def XaK.f (a0:Int):Option (Int):=(XM.f a0).bind fun t101=>(if t101=true then (some (Int.tmod a0 3)) else (some (-1)))
theorem XaK.calls (a0:Int) (r:Int) (w:World) (H:XaK.f a0=some r) :
  Calls Tryz.prog 150 #[.int .i64 a0] w fun e w'=>e = .returned (.int .i64 r)∧Drawn0 w w':=by
 unfold XaK.f at H
 replace H:=bE H;obtain⟨t101,A2,H⟩:=H
 go_enter Tryz.func150,Tryz.ntmps150
 cases t101
 case true =>
  rw[if_pos rfl] at H
  obtain rfl:=sI H
  go_wp2_with (refine gD 174 4 Tryz.func174 (XM.calls _ _ _ A2.out) ?_;intro nd)
  go_ret
  exact⟨by first | rfl | (simp;done) | (simp[*];done),dX⟩
 rw[if_neg nft] at H
 obtain rfl:=sI H
 go_wp2_with (refine gD 174 4 Tryz.func174 (XM.calls _ _ _ A2.out) ?_;intro nd)
 go_ret
 exact⟨by first | rfl | (simp;done) | (simp[*];done),dX⟩
def X9.l0:Nat→List (S140)→List (S162)→List Int→Int→Int→Option (List Int)
 | 0,_,_,_,_,_=>none
 | k+1,x0,x1,x5,x9,x10=>if x10<x9 then ((Xa3.f k x0 x1 x10).bind fun t104=>(if x5.length<17592186044416 then (X9.l0 k x0 x1 (x5 ++ [t104]) x9 (wrap64 (x10+1))) else (none))) else (some x5)
def X9.f (k:Nat) (l0:List (S140)) (l1:List (S162)):Option (List Int):=X9.l0 k l0 l1 (([]:List Int)) (l0.length:Int) 0
theorem X9.calls (k:Nat) (A0:Option Addr) (c0:Nat) (l0:List (S140)) (A1:Option Addr) (c1:Nat) (l1:List (S162)) (r:List Int) (w:World) (h0:Rw k140 w A0 c0 l0) (h1:Rw k162 w A1 c1 l1) (H:X9.f k l0 l1=some r) :
  Calls Tryz.prog 60 #[.slice A0 l0.length c0,.slice A1 l1.length c1] w fun e w'=>∃ v0_:Value,e = .returned (v0_)∧Kd.R (Kd.int .i64) 3 w' w.heap.size (fun _=>True) v0_ r∧Below w.heap.size w w':=by
 obtain⟨HR0,HC0⟩:=h0
 obtain⟨HR1,HC1⟩:=h1
 have HB:=aM (Below.refl w.heap.size w)
 unfold X9.f at H
 obtain⟨y101,hy101⟩:∃ y_:List Int,y_=(([]:List Int)):=⟨_,rfl⟩
 replace H:(X9.l0 k l0 l1 y101 (l0.length:Int) 0)=some r:=yH H hy101
 have Ny101:=aM hy101
 clear hy101
 have H':=aM H
 clear H
 go_enter Tryz.func60,Tryz.ntmps60
 go_wp2_with ((with_reducible refine gate_dst (N:=7) rfl ?_);refine Kd.R_lit (Kd.int .i64) _ 3 ?hg (N:=7) ?hd (xs:=([]:List Int)) (inner:=[]) (ok:=fun _=>True) (okp:=fun _=>True) ?hr ?hp (fun _ hk=>hk) trivial (Below.refl _ _) (Nat.le_refl _) (by simp) ?_;(case hd=>rfl);(case hg=>rfl);(case hr=>first | (go_simp;done) | (go_simp;rfl));(case hp=>exact(Reps.none _ _));intro vz1 wz1 hoz1 hb hg_ hnew_;clear hg_ hnew_;(first | rw[← Ny101.out] at hoz1 | (simp only[Int.reduceToNat] at hoz1;rw[← Ny101.out] at hoz1));have HOz1:=aM (Kd.R_lower hoz1 (below_size (hX HB.out)));replace HB:=aS HB hb;clear hb hoz1)
 go_loopg [5,10] k (fun kq v5 v10 w'=>∃ (x5_1:List Int) (x10_1:Int),v10 = .int .i64 x10_1∧Aside0 (X9.l0 kq l0 l1 x5_1 (l0.length:Int) x10_1=some r)∧Aside0 (kq≤k)∧Aside0 (Kd.R (Kd.int .i64) 3 w' w.heap.size (fun _=>True) v5 x5_1)∧Aside0 (Below w.heap.size w w'))
 case atStart=>exact⟨(y101),(0),rS,H',⟨Nat.le_refl _⟩,⟨(rX HOz1.out)⟩,⟨(hX HB.out)⟩⟩
 case round =>
  clear H'
  obtain⟨x5_1,x10_1,rfl,HA,HKy1,HO_y1,HB⟩:=hrel
  cases gk with
  | zero=>exact absurd HA.out (by simp[X9.l0])
  | succ k1 =>
   have H:=HA.out
   clear HA
   simp only[X9.l0] at H
   revert H;refine iN ?_ ?_<;>intro c5b0 H
   ·obtain rfl:=sI H
    go_wp2
    go_ret
    exact⟨_,rE,(rX HO_y1.out),(hX HB.out)⟩
   replace H:=bE H;obtain⟨t104,A6,H⟩:=H
   replace H:=ifP H;obtain⟨c7,H⟩:=H
   have LMc7:=aM c7
   clear c7
   obtain⟨y105,hy105⟩:∃ y_:List Int,y_=(x5_1 ++ [t104]):=⟨_,rfl⟩
   replace H:(X9.l0 k1 l0 l1 y105 (l0.length:Int) (wrap64 (x10_1+1)))=some r:=yH H hy105
   have Ny105:=aM hy105
   clear hy105
   have H':=aM H
   clear H
   go_wp2_with (first | (refine gB 123 17 Tryz.func123 (Xa3.calls _ _ _ _ _ _ _ _ _ _ (rW HR0 HB HC0) (rW HR1 HB HC1) A6.out) ?_;intro wx1 hb;replace HO_y1:=aQ HO_y1 hb;replace HB:=aS HB hb;clear hb) | ((with_reducible refine gate_builtin (b:=.append) (xs:=#[.tmp 13,.tmp 18]) rfl ?_);at_builtin;refine Kd.R_append (Kd.int .i64) (w0:=w) w.heap.size rfl (.tmp 13) (.tmp 18) 28 3 (.int .i64 0) 8 rfl Tryz.underlying28 info3 rfl (by decide) (by omega) u5 x5_1 t104 [.int .i64 t104] (fun _=>True) (fun _=>False) rfl rfl ?aP (fun _ hk=>hk.elim) ?aF ?aO ?aB ?aS ?aL ?_;(case aP=>exact rfl);(case aB=>exact(hX HB.out));(case aF=>exact(fun _ _=>trivial));(case aO=>exact(rX HO_y1.out));(case aS=>exact(below_size (hX HB.out)));(case aL=>have:=LMc7.out;omega);intro vx1 wx2 ho hb hg hat;rw[← Ny105.out] at ho;have HOx1:=aM (ho);replace HB:=aM (hb);clear HO_y1;clear ho hb hg hat))
   go_roundg k1
   case measure=>have:=HKy1.out;omega
   case rel=>exact⟨(y105),(wrap64 (x10_1+1)),rS,H',⟨by have:=HKy1.out;omega⟩,⟨(rX HOx1.out)⟩,⟨(hX HB.out)⟩⟩
def Xa6.f (a0:Int):Option (Int):=(XM.f a0).bind fun t101=>((Xas.f t101 (wrap64 (3+a0))).bind fun t102=>(some t102))
theorem Xa6.calls (a0:Int) (r:Int) (w:World) (H:Xa6.f a0=some r) :
  Calls Tryz.prog 148 #[.int .i64 a0] w fun e w'=>e = .returned (.int .i64 r)∧Drawn0 w w':=by
 unfold Xa6.f at H
 replace H:=bE H;obtain⟨t101,A2,H⟩:=H
 replace H:=bE H;obtain⟨t102,A3,H⟩:=H
 obtain rfl:=sI H
 go_enter Tryz.func148,Tryz.ntmps148
 go_wp2_with (first | (refine gD 174 4 Tryz.func174 (XM.calls _ _ _ A2.out) ?_;intro nd) | (refine gD 203 7 Tryz.func203 (Xas.calls _ _ _ _ A3.out) ?_;intro nd))
 go_ret
 exact⟨by first | rfl | (simp;done) | (simp[*];done),dX⟩
def Xa7.f (a0:Int):Option (Int):=(XaC.f a0).bind fun t101=>((Xas.f t101 (wrap64 (10+a0))).bind fun t102=>(some t102))
theorem Xa7.calls (a0:Int) (r:Int) (w:World) (H:Xa7.f a0=some r) :
  Calls Tryz.prog 149 #[.int .i64 a0] w fun e w'=>e = .returned (.int .i64 r)∧Drawn0 w w':=by
 unfold Xa7.f at H
 replace H:=bE H;obtain⟨t101,A2,H⟩:=H
 replace H:=bE H;obtain⟨t102,A3,H⟩:=H
 obtain rfl:=sI H
 go_enter Tryz.func149,Tryz.ntmps149
 go_wp2_with (first | (refine gD 177 4 Tryz.func177 (XaC.calls _ _ _ A2.out) ?_;intro nd) | (refine gD 203 7 Tryz.func203 (Xas.calls _ _ _ _ A3.out) ?_;intro nd))
 go_ret
 exact⟨by first | rfl | (simp;done) | (simp[*];done),dX⟩
def Xbo.f (a0:Int):Option (Int):=(XM.f a0).bind fun t101=>((XaH.f).bind fun t102=>((Xas.f t101 (wrap64 (t102+a0))).bind fun t103=>(some t103)))
theorem Xbo.calls (a0:Int) (r:Int) (w:World) (H:Xbo.f a0=some r) :
  Calls Tryz.prog 151 #[.int .i64 a0] w fun e w'=>e = .returned (.int .i64 r)∧Drawn0 w w':=by
 unfold Xbo.f at H
 replace H:=bE H;obtain⟨t101,A2,H⟩:=H
 replace H:=bE H;obtain⟨t102,A3,H⟩:=H
 replace H:=bE H;obtain⟨t103,A4,H⟩:=H
 obtain rfl:=sI H
 go_enter Tryz.func151,Tryz.ntmps151
 go_wp2_with (first | (refine gD 174 4 Tryz.func174 (XM.calls _ _ _ A2.out) ?_;intro nd) | (refine gD 122 5 Tryz.func122 (XaH.calls _ _ A3.out) ?_;intro nd) | (refine gD 203 8 Tryz.func203 (Xas.calls _ _ _ _ A4.out) ?_;intro nd))
 go_ret
 exact⟨by first | rfl | (simp;done) | (simp[*];done),dX⟩
end Go.Proofs.YtmljebgideecjaaGreat.P2
namespace Go.Proofs.YtmljebgideecjaaGreat.P2
open Go.RowKit Go.Proofs.YtmljebgideecjaaGreatW.PrintWords Go.Proofs.YtmljebgideecjaaGreatW.PrintLast Go.Proofs.YtmljebgideecjaaGreatZ
abbrev lWord:=S176
abbrev iWord:=S140
def cWord (x:lWord):iWord:=⟨x.f0,x.f1,x.f2⟩
theorem szWordS_eq (l:List lWord) (t:Int) (h0:0≤t) (h1:t≤1048576) (hl:l.length≤9223372036854775807):XaZ.f l t=some (lf (l.length:Int) t):=by
 have e:wrap64 (t - (l.length:Int))=t - l.length:=w64 (by omega) (by omega)
 unfold XaZ.f lf
 rw[e]
 by_cases h:(l.length:Int)≤t
 ·rw[if_neg (by omega),if_pos h]
 ·rw[if_pos (by omega),if_neg h]
theorem toWordS_ev (l:List lWord) (hl:l.length≤1048576):Ev (fun k=>X5.f k l) (l.map cWord):=by
 have c1:(0:Int)≤(l.length:Int):=by omega
 simp only[X5.f,c1,if_true,Int.toNat_natCast]
 refine Ev.pos (by omega) ?_
 refine fill_ev l cWord z140 (g:=fun k s i=>X5.l0 k l s i) ?_ ?_
 ·intro s hs
  refine Ev.shift ?_
  simp only[X5.l0,Int.lt_irrefl,if_false]
  exact Ev.now _
 ·intro s i x r hx hs hi h
  have hr:rd_T176 l (i:Int)=x:=getD_get hx
  refine Ev.shift ?_
  have d1:(i:Int)<(l.length:Int):=by omega
  have d2:(0:Int)≤(i:Int):=by omega
  have d3:(i:Int)<(s.length:Int):=by omega
  simp only[X5.l0,Xbq.f,Option.bind_some,d1,d2,d3,if_true,hr,Int.toNat_natCast,succ64 hi (by omega)]
  exact h
theorem eqWordS_ev (l:List iWord) (hl:l.length≤9223372036854775807):Ev (fun k=>Xw.f k l l) true:=by
 simp only[Xw.f,if_true]
 refine look_ev l true (g:=fun k i=>Xw.l0 k l l i) ?_ ?_
 ·refine Ev.shift ?_
  simp only[Xw.l0,Int.lt_irrefl,if_false]
  exact Ev.now _
 ·intro i x hx hi h
  refine Ev.shift ?_
  have d1:(i:Int)<(l.length:Int):=by omega
  have d2:(0:Int)≤(i:Int):=by omega
  simp only[Xw.l0,Xbb.f,bne_self_eq_false,Bool.false_eq_true,if_false,Option.bind_some,d1,d2,if_true,succ64 hi hl]
  exact h
abbrev lEntry:=S224
abbrev iEntry:=S165
def cEntry (x:lEntry):iEntry:=⟨x.f0,x.f1,x.f2⟩
theorem szEntryS_eq (l:List lEntry) (t:Int) (h0:0≤t) (h1:t≤1048576) (hl:l.length≤9223372036854775807):XaR.f l t=some (lf (l.length:Int) t):=by
 have e:wrap64 (t - (l.length:Int))=t - l.length:=w64 (by omega) (by omega)
 unfold XaR.f lf
 rw[e]
 by_cases h:(l.length:Int)≤t
 ·rw[if_neg (by omega),if_pos h]
 ·rw[if_pos (by omega),if_neg h]
theorem toEntryS_ev (l:List lEntry) (hl:l.length≤1048576):Ev (fun k=>X2.f k l) (l.map cEntry):=by
 have c1:(0:Int)≤(l.length:Int):=by omega
 simp only[X2.f,c1,if_true,Int.toNat_natCast]
 refine Ev.pos (by omega) ?_
 refine fill_ev l cEntry z165 (g:=fun k s i=>X2.l0 k l s i) ?_ ?_
 ·intro s hs
  refine Ev.shift ?_
  simp only[X2.l0,Int.lt_irrefl,if_false]
  exact Ev.now _
 ·intro s i x r hx hs hi h
  have hr:rd_T224 l (i:Int)=x:=getD_get hx
  refine Ev.shift ?_
  have d1:(i:Int)<(l.length:Int):=by omega
  have d2:(0:Int)≤(i:Int):=by omega
  have d3:(i:Int)<(s.length:Int):=by omega
  simp only[X2.l0,Xbj.f,Option.bind_some,d1,d2,d3,if_true,hr,Int.toNat_natCast,succ64 hi (by omega)]
  exact h
theorem eqEntryS_ev (l:List iEntry) (hl:l.length≤9223372036854775807):Ev (fun k=>Xs.f k l l) true:=by
 simp only[Xs.f,if_true]
 refine look_ev l true (g:=fun k i=>Xs.l0 k l l i) ?_ ?_
 ·refine Ev.shift ?_
  simp only[Xs.l0,Int.lt_irrefl,if_false]
  exact Ev.now _
 ·intro i x hx hi h
  refine Ev.shift ?_
  have d1:(i:Int)<(l.length:Int):=by omega
  have d2:(0:Int)≤(i:Int):=by omega
  simp only[Xs.l0,Xa0.f,bne_self_eq_false,Bool.false_eq_true,if_false,Option.bind_some,d1,d2,if_true,succ64 hi hl]
  exact h
theorem lf_then {a b t:Int} {G:Int→Option Int} (ha:0≤a) (hb:0≤b) (ht:t≤1048576) (hG:∀ u,0≤u→u≤1048576→G u=some (lf b u)):(if lf a t<0 then some (-1) else G (lf a t))=some (lf (a+b) t):=by
 by_cases h:a≤t
 ·rw[lf_pos h,if_neg (by omega),hG _ (by omega) (by omega)]
  unfold lf
  by_cases h2:b≤t - a
  ·rw[if_pos h2,if_pos (by omega)];congr 1;omega
  ·rw[if_neg h2,if_neg (by omega)]
 ·rw[lf_neg h,if_pos (by decide),lf_neg (by omega)]
theorem lf_last {a t:Int} (ha:0≤a):(if lf a t<0 then some (-1) else some (lf a t))=some (lf a t):=by
 by_cases h:a≤t
 ·rw[lf_pos h,if_neg (by omega)]
 ·rw[lf_neg h,if_pos (by decide)]
theorem szRes_eq (a:Int) (l:List Int) (t:Int) (h0:0≤t) (h1:t≤1048576) (hl:l.length≤9223372036854775807):XaI.f a l t=some (lf (l.length:Int) t):=by
 simp only[XaI.f]
 rw[szIntS_eq l t h0 h1 hl,Option.bind_some]
 exact lf_last (by omega)
theorem toRes_ev (a:Int) (l:List Int) (hl:l.length≤1048576):Ev (fun k=>XaU.f k a l) (a,l):=by
 simp only[XaU.f]
 exact Ev.bind (toIntS_ev l hl) (Ev.now _)
theorem eqRes_ev (a:Int) (l:List Int) (hl:l.length≤9223372036854775807):Ev (fun k=>XaJ.f k a l a l) true:=by
 simp only[XaJ.f,if_true]
 refine Ev.bind (eqIntS_ev l hl) ?_
 simp only[if_true]
 exact Ev.now _
theorem ctl_mem {τ:Type} {ct:τ→Int} (h:∀ x,0≤ct x) {x:τ} : ∀ {l:List τ},x ∈ l→ct x≤ctl ct l
 | [],m=>by cases m
 | y :: l,m=>by
  have h1:=h y
  have h2:=ctl_nonneg h l
  simp only[ctl]
  rcases List.mem_cons.mp m with e | m
  ·rw[e];omega
  ·have:=ctl_mem h m;omega
abbrev lOp:=S116
abbrev iOp:=S69
def cOp (x:lOp):iOp:=⟨x.f0,x.f1,x.f2⟩
theorem szOpS_eq (l:List lOp) (t:Int) (h0:0≤t) (h1:t≤1048576) (hl:l.length≤9223372036854775807):Xbk.f l t=some (lf (l.length:Int) t):=by
 have e:wrap64 (t - (l.length:Int))=t - l.length:=w64 (by omega) (by omega)
 unfold Xbk.f lf
 rw[e]
 by_cases h:(l.length:Int)≤t
 ·rw[if_neg (by omega),if_pos h]
 ·rw[if_pos (by omega),if_neg h]
theorem toOpS_ev (l:List lOp) (hl:l.length≤1048576):Ev (fun k=>Xal.f k l) (l.map cOp):=by
 have c1:(0:Int)≤(l.length:Int):=by omega
 simp only[Xal.f,c1,if_true,Int.toNat_natCast]
 refine Ev.pos (by omega) ?_
 refine fill_ev l cOp z69 (g:=fun k s i=>Xal.l0 k l s i) ?_ ?_
 ·intro s hs
  refine Ev.shift ?_
  simp only[Xal.l0,Int.lt_irrefl,if_false]
  exact Ev.now _
 ·intro s i x r hx hs hi h
  have hr:rd_T116 l (i:Int)=x:=getD_get hx
  refine Ev.shift ?_
  have d1:(i:Int)<(l.length:Int):=by omega
  have d2:(0:Int)≤(i:Int):=by omega
  have d3:(i:Int)<(s.length:Int):=by omega
  simp only[Xal.l0,Xa8.f,Option.bind_some,d1,d2,d3,if_true,hr,Int.toNat_natCast,succ64 hi (by omega)]
  exact h
theorem eqOpS_ev (l:List iOp) (hl:l.length≤9223372036854775807):Ev (fun k=>XP.f k l l) true:=by
 simp only[XP.f,if_true]
 refine look_ev l true (g:=fun k i=>XP.l0 k l l i) ?_ ?_
 ·refine Ev.shift ?_
  simp only[XP.l0,Int.lt_irrefl,if_false]
  exact Ev.now _
 ·intro i x hx hi h
  refine Ev.shift ?_
  have d1:(i:Int)<(l.length:Int):=by omega
  have d2:(0:Int)≤(i:Int):=by omega
  simp only[XP.l0,XaP.f,bne_self_eq_false,Bool.false_eq_true,if_false,Option.bind_some,d1,d2,if_true,succ64 hi hl]
  exact h
abbrev lPair:=S204
abbrev iPair:=S172
def cPair (x:lPair):iPair:=⟨x.f0,x.f1⟩
theorem szPairS_eq (l:List lPair) (t:Int) (h0:0≤t) (h1:t≤1048576) (hl:l.length≤9223372036854775807):XaF.f l t=some (lf (l.length:Int) t):=by
 have e:wrap64 (t - (l.length:Int))=t - l.length:=w64 (by omega) (by omega)
 unfold XaF.f lf
 rw[e]
 by_cases h:(l.length:Int)≤t
 ·rw[if_neg (by omega),if_pos h]
 ·rw[if_pos (by omega),if_neg h]
theorem toPairS_ev (l:List lPair) (hl:l.length≤1048576):Ev (fun k=>X6.f k l) (l.map cPair):=by
 have c1:(0:Int)≤(l.length:Int):=by omega
 simp only[X6.f,c1,if_true,Int.toNat_natCast]
 refine Ev.pos (by omega) ?_
 refine fill_ev l cPair z172 (g:=fun k s i=>X6.l0 k l s i) ?_ ?_
 ·intro s hs
  refine Ev.shift ?_
  simp only[X6.l0,Int.lt_irrefl,if_false]
  exact Ev.now _
 ·intro s i x r hx hs hi h
  have hr:rd_T204 l (i:Int)=x:=getD_get hx
  refine Ev.shift ?_
  have d1:(i:Int)<(l.length:Int):=by omega
  have d2:(0:Int)≤(i:Int):=by omega
  have d3:(i:Int)<(s.length:Int):=by omega
  simp only[X6.l0,Xbr.f,Option.bind_some,d1,d2,d3,if_true,hr,Int.toNat_natCast,succ64 hi (by omega)]
  exact h
theorem eqPairS_ev (l:List iPair) (hl:l.length≤9223372036854775807):Ev (fun k=>Xx.f k l l) true:=by
 simp only[Xx.f,if_true]
 refine look_ev l true (g:=fun k i=>Xx.l0 k l l i) ?_ ?_
 ·refine Ev.shift ?_
  simp only[Xx.l0,Int.lt_irrefl,if_false]
  exact Ev.now _
 ·intro i x hx hi h
  refine Ev.shift ?_
  have d1:(i:Int)<(l.length:Int):=by omega
  have d2:(0:Int)≤(i:Int):=by omega
  simp only[Xx.l0,Xbc.f,bne_self_eq_false,Bool.false_eq_true,if_false,Option.bind_some,d1,d2,if_true,succ64 hi hl]
  exact h
abbrev lHelp:=S206
abbrev iHelp:=S174
def cHelp (x:lHelp):iHelp:=⟨x.f0,x.f1,x.f2,x.f3⟩
theorem szHelpS_eq (l:List lHelp) (t:Int) (h0:0≤t) (h1:t≤1048576) (hl:l.length≤9223372036854775807):XaB.f l t=some (lf (l.length:Int) t):=by
 have e:wrap64 (t - (l.length:Int))=t - l.length:=w64 (by omega) (by omega)
 unfold XaB.f lf
 rw[e]
 by_cases h:(l.length:Int)≤t
 ·rw[if_neg (by omega),if_pos h]
 ·rw[if_pos (by omega),if_neg h]
theorem toHelpS_ev (l:List lHelp) (hl:l.length≤1048576):Ev (fun k=>X7.f k l) (l.map cHelp):=by
 have c1:(0:Int)≤(l.length:Int):=by omega
 simp only[X7.f,c1,if_true,Int.toNat_natCast]
 refine Ev.pos (by omega) ?_
 refine fill_ev l cHelp z174 (g:=fun k s i=>X7.l0 k l s i) ?_ ?_
 ·intro s hs
  refine Ev.shift ?_
  simp only[X7.l0,Int.lt_irrefl,if_false]
  exact Ev.now _
 ·intro s i x r hx hs hi h
  have hr:rd_T206 l (i:Int)=x:=getD_get hx
  refine Ev.shift ?_
  have d1:(i:Int)<(l.length:Int):=by omega
  have d2:(0:Int)≤(i:Int):=by omega
  have d3:(i:Int)<(s.length:Int):=by omega
  simp only[X7.l0,Xbs.f,Option.bind_some,d1,d2,d3,if_true,hr,Int.toNat_natCast,succ64 hi (by omega)]
  exact h
theorem eqHelpS_ev (l:List iHelp) (hl:l.length≤9223372036854775807):Ev (fun k=>Xy.f k l l) true:=by
 simp only[Xy.f,if_true]
 refine look_ev l true (g:=fun k i=>Xy.l0 k l l i) ?_ ?_
 ·refine Ev.shift ?_
  simp only[Xy.l0,Int.lt_irrefl,if_false]
  exact Ev.now _
 ·intro i x hx hi h
  refine Ev.shift ?_
  have d1:(i:Int)<(l.length:Int):=by omega
  have d2:(0:Int)≤(i:Int):=by omega
  simp only[Xy.l0,Xbd.f,bne_self_eq_false,Bool.false_eq_true,if_false,Option.bind_some,d1,d2,if_true,succ64 hi hl]
  exact h
end Go.Proofs.YtmljebgideecjaaGreat.P2
