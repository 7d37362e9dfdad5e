/- A part of the proof of the law FnStarts: texts of this seat, merged (words, printed functions of the program, plain lemmas). Conditions: none of its own. -/
import Derived.Test.YthejoblnfpaojaaGreatPkFnStarts15
set_option linter.unusedSimpArgs false
set_option linter.unusedVariables false
set_option maxHeartbeats 8000000
set_option maxRecDepth 100000
namespace Go.Proofs.YthejoblnfpaojaaGreat.P
open Go.Proofs.YthejoblnfpaojaaGreatZ Go.RowKit Go.Proofs.YthejoblnfpaojaaGreatW.PrintWords Go.Proofs.YthejoblnfpaojaaGreatW.PrintLast Go.Proofs.YthejoblnfpaojaaGreatW.PrintMore
attribute [local go_sem] max2_int min2_int max_two min_two max_three min_three max_four min_four   -- for this text's walks alone
mutual
def XB.j0:Nat→Int→Int→Bool→List Int→Int→Int→Int→Int→Option (Bool)
 | 0,_,_,_,_,_,_,_,_=>none
 | k+1,x2,x7,x42,x102000,x102001,x103000,x103001,x103002=>if x42=true then (if 0≤x103001 then (if x103001<(x102000.length:Int) then (some ((rd x102000 x103001) == 0)) else (none)) else (none)) else (if x2=3 then (if x7<0 then (if x103000=5 then (some true) else (if x103000=10 then ((Xaj.f x102000 x102001).bind fun t106=>(some t106)) else (some false))) else (some false)) else (if x2=4 then (XB.j1 k x2 (x103000 == 8) x102000 x102001 x103000 x103001 x103002) else (XB.j1 k x2 false x102000 x102001 x103000 x103001 x103002)))
def XB.j1:Nat→Int→Bool→List Int→Int→Int→Int→Int→Option (Bool)
 | 0,_,_,_,_,_,_,_=>none
 | k+1,x2,x86,x102000,x102001,x103000,x103001,x103002=>if x86=true then (some (x102001 != 0)) else (if x2=4 then (XB.j2 k x2 (x103000 == 9) x102000 x102001 x103000 x103001 x103002) else (XB.j2 k x2 false x102000 x102001 x103000 x103001 x103002))
def XB.j2:Nat→Int→Bool→List Int→Int→Int→Int→Int→Option (Bool)
 | 0,_,_,_,_,_,_,_=>none
 | k+1,x2,x97,x102000,x102001,x103000,x103001,x103002=>if x97=true then (if x102001=0 then (some true) else ((Xaj.f x102000 x102001).bind fun t107=>(some t107))) else (if x2=4 then (if x103000=10 then ((Xaj.f x102000 x102001).bind fun t108=>(some (!t108))) else (some false)) else (some false))
end
def XB.f (k:Nat) (l0_0:List Int) (a0_1:Int) (a1_0:Int) (a1_1:Int) (a1_2:Int) (a2:Int):Option (Bool):=(X2.f k l0_0 a0_1 a1_2).bind fun t103=>(if a2=1 then (if a1_0=1 then (if 0≤a1_1 then (if a1_1<(l0_0.length:Int) then (some ((rd l0_0 a1_1) != 0)) else (none)) else (none)) else (some false)) else (if a2=2 then (if a1_0=1 then (some (decide (t103 ≥ 0))) else (if a1_0=2 then (some (decide (t103 ≥ 0))) else (some false))) else (if a2=3 then (if a1_0=2 then (XB.j0 k a2 t103 true l0_0 a0_1 a1_0 a1_1 a1_2) else (if a1_0=3 then (XB.j0 k a2 t103 true l0_0 a0_1 a1_0 a1_1 a1_2) else (XB.j0 k a2 t103 (a1_0 == 4) l0_0 a0_1 a1_0 a1_1 a1_2))) else (XB.j0 k a2 t103 false l0_0 a0_1 a1_0 a1_1 a1_2))))
theorem XB.calls (k:Nat) (A0_0:Option Addr) (c0_0:Nat) (l0_0:List Int) (a0_1:Int) (a1_0:Int) (a1_1:Int) (a1_2:Int) (a2:Int) (r:Bool) (w:World) (h0_0:Rw (Kd.int .i64) w A0_0 c0_0 l0_0) (H:XB.f k l0_0 a0_1 a1_0 a1_1 a1_2 a2=some r) :
  Calls Tryz.prog 150 #[.agg #[.slice A0_0 l0_0.length c0_0,.int .i64 a0_1],.agg #[.int .i64 a1_0,.int .i64 a1_1,.int .i64 a1_2],.int .i64 a2] w fun e w'=>e = .returned (.bool r)∧Below w.heap.size w w':=by
 have hu26:=Tryz.underlying26
 have hu78:=Tryz.underlying78
 obtain⟨HR0_0,HC0_0⟩:=h0_0
 have HB:=aM (Below.refl w.heap.size w)
 unfold XB.f at H
 replace H:=bE H;obtain⟨t103,A4,H⟩:=H
 go_enter Tryz.func150,Tryz.ntmps150
 revert H;refine eP ?_ ?_<;>intro c5b0 c5b1 H
 ·go_wp2_with (first | (refine boxE 3 #[.slice A0_0 l0_0.length c0_0,.int .i64 a0_1] 26 ?_;intro gbz1 hg wz1 hbox hb;have BKz1:=aM (hbox);have GWz1:=aG hg HB;have GEz1:=aG hg HB;replace HB:=aS HB hb;clear hb hbox hg) | (refine boxE 4 #[.int .i64 a1_0,.int .i64 a1_1,.int .i64 a1_2] 78 ?_;intro gbz2 hg wz2 hbox hb;have BKz2:=aM (hbox);have GWz2:=aG hg HB;have GEz2:=aG hg HB;have NBz1:=aL hg BKz1;have NBz2:=aR hg BKz1;replace BKz1:=aB BKz1 hb;replace HB:=aS HB hb;clear hb hbox hg;have hnbz1:=NBz1.out;have hncz1:=NBz2.out;have hczz1:=cZ2 BKz1.out;have hczz3:=cZ3 BKz2.out;refine Stop.out ?_))
  refine⟨?_⟩
  revert H;refine eN ?_ ?_<;>intro c6b0 c6b1 H
  ·obtain rfl:=sI H
   go_wp2_with (refine gB 197 11 Tryz.func197 (X2.calls _ _ _ _ _ _ _ _ (rW HR0_0 HB HC0_0) A4.out) ?_;intro wz3 hb;replace BKz1:=aB BKz1 hb;replace BKz2:=aB BKz2 hb;replace HB:=aS HB hb;clear hb;have hczz6:=cZ3 BKz2.out)
   go_ret
   exact⟨rE,(hX HB.out)⟩
  replace H:=ifQ H;obtain⟨c7b0,H⟩:=H
  replace H:=ifQ H;obtain⟨c8b0,H⟩:=H
  obtain rfl:=sI H
  go_wp2_with (refine gB 197 11 Tryz.func197 (X2.calls _ _ _ _ _ _ _ _ (rW HR0_0 HB HC0_0) A4.out) ?_;intro wz3 hb;replace BKz1:=aB BKz1 hb;replace BKz2:=aB BKz2 hb;replace HB:=aS HB hb;clear hb;have hczz6:=cZ3 BKz2.out;have hczz9:=cZ2 BKz1.out;have pz1:0≤(a1_1:Int):=odA;have qz1:a1_1<(l0_0.length:Int):=odA;obtain⟨adz1,ez1,hxz1⟩:=Kd.at_int HR0_0.out a1_1 pz1 qz1;cases ez1;replace hxz1:=bc HB.out hxz1;replace pz1:=eq_true pz1;replace qz1:=eq_true qz1)
  go_ret
  exact⟨rE,(hX HB.out)⟩
 revert H;refine eP ?_ ?_<;>intro c24b0 c24b1 H
 ·go_wp2_with (first | (refine boxE 3 #[.slice A0_0 l0_0.length c0_0,.int .i64 a0_1] 26 ?_;intro gbz1 hg wz1 hbox hb;have BKz1:=aM (hbox);have GWz1:=aG hg HB;have GEz1:=aG hg HB;replace HB:=aS HB hb;clear hb hbox hg) | (refine boxE 4 #[.int .i64 a1_0,.int .i64 a1_1,.int .i64 a1_2] 78 ?_;intro gbz2 hg wz2 hbox hb;have BKz2:=aM (hbox);have GWz2:=aG hg HB;have GEz2:=aG hg HB;have NBz1:=aL hg BKz1;have NBz2:=aR hg BKz1;replace BKz1:=aB BKz1 hb;replace HB:=aS HB hb;clear hb hbox hg;have hnbz1:=NBz1.out;have hncz1:=NBz2.out;have hczz1:=cZ2 BKz1.out;have hczz3:=cZ3 BKz2.out) | (refine gB 197 11 Tryz.func197 (X2.calls _ _ _ _ _ _ _ _ (rW HR0_0 HB HC0_0) A4.out) ?_;intro wz3 hb;replace BKz1:=aB BKz1 hb;replace BKz2:=aB BKz2 hb;replace HB:=aS HB hb;clear hb;have hczz6:=cZ3 BKz2.out;refine Stop.out ?_))
  refine⟨?_⟩
  revert H;refine eP ?_ ?_<;>intro c25b0 c25b1 H
  ·obtain rfl:=sI H
   exact fS
  revert H;refine eN ?_ ?_<;>intro c33b0 c33b1 H
  ·obtain rfl:=sI H
   exact fS
  exact fR
 have HC48:=aM H
 clear H
 go_upto_region 6 with(first | ((with_reducible refine gate_dst (N:=3) rfl ?_);refine boxE 3 #[.slice A0_0 l0_0.length c0_0,.int .i64 a0_1] 26 ?_;intro gbz1 hg wz1 hbox hb;have BKz1:=aM (hbox);have GWz1:=aG hg HB;have GEz1:=aG hg HB;replace HB:=aS HB hb;clear hb hbox hg) | ((with_reducible refine gate_dst (N:=4) rfl ?_);refine boxE 4 #[.int .i64 a1_0,.int .i64 a1_1,.int .i64 a1_2] 78 ?_;intro gbz2 hg wz2 hbox hb;have BKz2:=aM (hbox);have GWz2:=aG hg HB;have GEz2:=aG hg HB;have NBz1:=aL hg BKz1;have NBz2:=aR hg BKz1;replace BKz1:=aB BKz1 hb;replace HB:=aS HB hb;clear hb hbox hg;have hnbz1:=NBz1.out;have hncz1:=NBz2.out;have hczz1:=cZ2 BKz1.out;have hczz3:=cZ3 BKz2.out) | ((with_reducible refine gate_callee (f:=197) rfl ?_);refine gB 197 11 Tryz.func197 (X2.calls _ _ _ _ _ _ _ _ (rW HR0_0 HB HC0_0) A4.out) ?_;intro wz3 hb;replace BKz1:=aB BKz1 hb;replace BKz2:=aB BKz2 hb;replace HB:=aS HB hb;clear hb))
 (try simp only[Act.put,List.setIfInBounds_toArray,List.set_cons_zero,List.set_cons_succ])
 go_cut [42] (fun vz1 wc=>∃ (kq:Nat) (x42_47:Bool),vz1 = .bool x42_47∧Aside0 (XB.j0 kq a2 t103 x42_47 l0_0 a0_1 a1_0 a1_1 a1_2=some r)∧Aside0 (kq≤k)∧Aside0 (wc.heap[gbz1]? = some (.cells #[(.slice A0_0 l0_0.length c0_0),.int .i64 a0_1] 26 (0,0)))∧Aside0 (wc.heap[gbz2]? = some (.cells #[.int .i64 a1_0,.int .i64 a1_1,.int .i64 a1_2] 78 (0,0)))∧Aside0 (Below w.heap.size w wc))
 case first =>
  have H:=HC48.out
  clear HC48
  revert H;refine eN ?_ ?_<;>intro c55b0 c55b1 H
  ·(first | rw[c55b0] | (simp only[i64_w,i32_w];rw[c55b0]) | skip)
   have H':=aM H
   clear H
   go_wp2
   go_meet
   case rel=>exact⟨_,(false),rS,H',⟨by first | omega | exact Nat.le_refl _⟩,⟨(bX BKz1.out)⟩,⟨(bX BKz2.out)⟩,⟨(hX HB.out)⟩⟩
  (first | rw[c55b0] | (simp only[i64_w,i32_w];rw[c55b0]) | skip)
  revert H;refine eP ?_ ?_<;>intro c56b0 c56b1 H
  ·have H':=aM H
   clear H
   have hnby1:=NBz2.out
   have hncy1:=NBz1.out
   have hczy1:=cZ3 BKz2.out
   go_wp2
   go_meet
   case rel=>exact⟨_,(true),rS,H',⟨by first | omega | exact Nat.le_refl _⟩,⟨(bX BKz1.out)⟩,⟨(bX BKz2.out)⟩,⟨(hX HB.out)⟩⟩
  revert H;refine eN ?_ ?_<;>intro c59b0 c59b1 H
  ·have H':=aM H
   clear H
   have hnby1:=NBz2.out
   have hncy1:=NBz1.out
   have hczy1:=cZ3 BKz2.out
   go_wp2
   go_meet
   case rel=>exact⟨_,((a1_0 == 4)),rS,H',⟨by first | omega | exact Nat.le_refl _⟩,⟨(bX BKz1.out)⟩,⟨(bX BKz2.out)⟩,⟨(hX HB.out)⟩⟩
  have H':=aM H
  clear H
  have hnby1:=NBz2.out
  have hncy1:=NBz1.out
  have hczy1:=cZ3 BKz2.out
  go_wp2
  go_meet
  case rel=>exact⟨_,(true),rS,H',⟨by first | omega | exact Nat.le_refl _⟩,⟨(bX BKz1.out)⟩,⟨(bX BKz2.out)⟩,⟨(hX HB.out)⟩⟩
 case rest =>
  clear HC48
  try clear c5b0
  try clear c5b1
  try clear c24b0
  try clear c24b1
  try clear hczz1
  try clear hczz3
  obtain⟨kq,x42_47,rfl,HA,HJy1,BKz1,BKz2,HB⟩:=hcut
  cases kq with
  | zero=>exact absurd HA.out (by simp[XB.j0])
  | succ kj47 =>
   have H:=HA.out
   clear HA
   simp only[XB.j0] at H
   cases x42_47
   case true =>
    rw[if_pos rfl] at H
    replace H:=ifQ H;obtain⟨c65b0,H⟩:=H
    replace H:=ifQ H;obtain⟨c66b0,H⟩:=H
    obtain rfl:=sI H
    have hnbx1:=NBz1.out
    have hncx1:=NBz2.out
    have hczx1:=cZ2 BKz1.out
    have hczx3:=cZ3 BKz2.out
    obtain⟨adx1,ex1,px1,qx1,hxx1⟩:=at_ic HR0_0 HB a1_1
    cases ex1
    exact fS
   rw[if_neg nft] at H
   revert H;refine eP ?_ ?_<;>intro c70b0 c70b1 H
   ·revert H;refine iN ?_ ?_<;>intro c71b0 H
    ·obtain rfl:=sI H
     exact fS
    revert H;refine eP ?_ ?_<;>intro c72b0 c72b1 H
    ·obtain rfl:=sI H
     have hnbx1:=NBz2.out
     have hncx1:=NBz1.out
     have hczx1:=cZ3 BKz2.out
     exact fS
    revert H;refine eN ?_ ?_<;>intro c75b0 c75b1 H
    ·obtain rfl:=sI H
     have hnbx1:=NBz2.out
     have hncx1:=NBz1.out
     have hczx1:=cZ3 BKz2.out
     exact fS
    replace H:=bE H;obtain⟨t106,A76,H⟩:=H
    obtain rfl:=sI H
    have hnbx1:=NBz2.out
    have hncx1:=NBz1.out
    have hczx1:=cZ3 BKz2.out
    have hczx4:=cZ2 BKz1.out
    go_wp2_with (go_at_call 198;(with_reducible refine(Xaj.calls _ _ _ _ _ _ (rW HR0_0 HB HC0_0) A76.out).mono ?_);rintro e wx1 ⟨rfl,hb⟩;replace BKz1:=aB BKz1 hb;replace BKz2:=aB BKz2 hb;replace HB:=aS HB hb;clear hb)
    go_ret
    exact⟨rE,(hX HB.out)⟩
   have HC83:=aM H
   clear H
   go_upto_region 10 with(fail)
   go_cut [86] (fun vx1 wc=>∃ (kq:Nat) (x86_82:Bool),vx1 = .bool x86_82∧Aside0 (XB.j1 kq a2 x86_82 l0_0 a0_1 a1_0 a1_1 a1_2=some r)∧Aside0 (kq≤kj47)∧Aside0 (wc.heap[gbz1]? = some (.cells #[(.slice A0_0 l0_0.length c0_0),.int .i64 a0_1] 26 (0,0)))∧Aside0 (wc.heap[gbz2]? = some (.cells #[.int .i64 a1_0,.int .i64 a1_1,.int .i64 a1_2] 78 (0,0)))∧Aside0 (Below w.heap.size w wc))
   case first =>
    have H:=HC83.out
    clear HC83
    revert H;refine eN ?_ ?_<;>intro c84b0 c84b1 H
    ·(first | rw[c84b0] | (simp only[i64_w,i32_w];rw[c84b0]) | skip)
     have H':=aM H
     clear H
     go_wp2
     go_meet
     case rel=>exact⟨_,(false),rS,H',⟨by have:=HJy1.out;first | omega | exact Nat.le_refl _⟩,⟨(bX BKz1.out)⟩,⟨(bX BKz2.out)⟩,⟨(hX HB.out)⟩⟩
    (first | rw[c84b0] | (simp only[i64_w,i32_w];rw[c84b0]) | skip)
    have H':=aM H
    clear H
    have hnbw1:=nB NBz2 NBz1
    have hczw1:=cZ3 BKz2.out
    go_wp2
    go_meet
    case rel=>exact⟨_,((a1_0 == 8)),rS,H',⟨by have:=HJy1.out;first | omega | exact Nat.le_refl _⟩,⟨(bX BKz1.out)⟩,⟨(bX BKz2.out)⟩,⟨(hX HB.out)⟩⟩
   case rest =>
    clear HC83
    try clear c5b0
    try clear c5b1
    try clear c24b0
    try clear c24b1
    try clear c70b0
    try clear c70b1
    try clear hczz1
    try clear hczz3
    obtain⟨kq,x86_82,rfl,HA,HJw1,BKz1,BKz2,HB⟩:=hcut
    cases kq with
    | zero=>exact absurd HA.out (by simp[XB.j1])
    | succ kj82 =>
     have H:=HA.out
     clear HA
     simp only[XB.j1] at H
     cases x86_82
     case true =>
      rw[if_pos rfl] at H
      obtain rfl:=sI H
      have hnbv1:=nB NBz1 NBz2
      have hczv1:=cZ2 BKz1.out
      exact fS
     rw[if_neg nft] at H
     have HC90:=aM H
     clear H
     go_upto_region 12 with(fail)
     go_cut [97] (fun vv1 wc=>∃ (kq:Nat) (x97_89:Bool),vv1 = .bool x97_89∧Aside0 (XB.j2 kq a2 x97_89 l0_0 a0_1 a1_0 a1_1 a1_2=some r)∧Aside0 (kq≤kj82)∧Aside0 (wc.heap[gbz1]? = some (.cells #[(.slice A0_0 l0_0.length c0_0),.int .i64 a0_1] 26 (0,0)))∧Aside0 (wc.heap[gbz2]? = some (.cells #[.int .i64 a1_0,.int .i64 a1_1,.int .i64 a1_2] 78 (0,0)))∧Aside0 (Below w.heap.size w wc))
     case first =>
      have H:=HC90.out
      clear HC90
      revert H;refine eN ?_ ?_<;>intro c91b0 c91b1 H
      ·(first | rw[c91b0] | (simp only[i64_w,i32_w];rw[c91b0]) | skip)
       have H':=aM H
       clear H
       go_wp2
       go_meet
       case rel=>exact⟨_,(false),rS,H',⟨by have:=HJy1.out;have:=HJw1.out;first | omega | exact Nat.le_refl _⟩,⟨(bX BKz1.out)⟩,⟨(bX BKz2.out)⟩,⟨(hX HB.out)⟩⟩
      (first | rw[c91b0] | (simp only[i64_w,i32_w];rw[c91b0]) | skip)
      have H':=aM H
      clear H
      have hnbu1:=nB NBz2 NBz1
      have hczu1:=cZ3 BKz2.out
      go_wp2
      go_meet
      case rel=>exact⟨_,((a1_0 == 9)),rS,H',⟨by have:=HJy1.out;have:=HJw1.out;first | omega | exact Nat.le_refl _⟩,⟨(bX BKz1.out)⟩,⟨(bX BKz2.out)⟩,⟨(hX HB.out)⟩⟩
     case rest =>
      clear HC90
      try clear c5b0
      try clear c5b1
      try clear c24b0
      try clear c24b1
      try clear c70b0
      try clear c70b1
      try clear hczz1
      try clear hczz3
      obtain⟨kq,x97_89,rfl,HA,HJu1,BKz1,BKz2,HB⟩:=hcut
      cases kq with
      | zero=>exact absurd HA.out (by simp[XB.j2])
      | succ kj89 =>
       have H:=HA.out
       clear HA
       simp only[XB.j2] at H
       cases x97_89
       case true =>
        rw[if_pos rfl] at H
        revert H;refine eP ?_ ?_<;>intro c95b0 c95b1 H
        ·obtain rfl:=sI H
         have hnbt1:=NBz1.out
         have hnct1:=NBz2.out
         have hczt1:=cZ2 BKz1.out
         exact fS
        replace H:=bE H;obtain⟨t107,A98,H⟩:=H
        obtain rfl:=sI H
        have hnbt1:=NBz1.out
        have hnct1:=NBz2.out
        have hczt1:=cZ2 BKz1.out
        go_wp2_with (go_at_call 198;(with_reducible refine(Xaj.calls _ _ _ _ _ _ (rW HR0_0 HB HC0_0) A98.out).mono ?_);rintro e wt1 ⟨rfl,hb⟩;replace BKz1:=aB BKz1 hb;replace BKz2:=aB BKz2 hb;replace HB:=aS HB hb;clear hb)
        go_ret
        exact⟨rE,(hX HB.out)⟩
       rw[if_neg nft] at H
       revert H;refine eN ?_ ?_<;>intro c102b0 c102b1 H
       ·obtain rfl:=sI H
        exact fS
       revert H;refine eN ?_ ?_<;>intro c103b0 c103b1 H
       ·obtain rfl:=sI H
        have hnbt1:=NBz2.out
        have hnct1:=NBz1.out
        have hczt1:=cZ3 BKz2.out
        exact fS
       replace H:=bE H;obtain⟨t108,A104,H⟩:=H
       obtain rfl:=sI H
       have hnbt1:=NBz2.out
       have hnct1:=NBz1.out
       have hczt1:=cZ3 BKz2.out
       have hczt4:=cZ2 BKz1.out
       go_wp2_with (refine gB 198 121 Tryz.func198 (Xaj.calls _ _ _ _ _ _ (rW HR0_0 HB HC0_0) A104.out) ?_;intro wt1 hb;replace BKz1:=aB BKz1 hb;replace BKz2:=aB BKz2 hb;replace HB:=aS HB hb;clear hb)
       go_ret
       exact⟨rE,(hX HB.out)⟩
def XW.l0:Nat→List (S51)→List (S58)→List Int→Int→Int→Option (List Int)
 | 0,_,_,_,_,_=>none
 | k+1,x0,x1,x5,x9,x10=>if x10<x9 then ((XaF.f k x0 x1 x10).bind fun t104=>(if x5.length<17592186044416 then (XW.l0 k x0 x1 (x5 ++ [t104]) x9 (wrap64 (x10+1))) else (none))) else (some x5)
def XW.f (k:Nat) (l0:List (S51)) (l1:List (S58)):Option (List Int):=XW.l0 k l0 l1 (([]:List Int)) (l0.length:Int) 0
theorem XW.calls (k:Nat) (A0:Option Addr) (c0:Nat) (l0:List (S51)) (A1:Option Addr) (c1:Nat) (l1:List (S58)) (r:List Int) (w:World) (h0:Rw k51 w A0 c0 l0) (h1:Rw k58 w A1 c1 l1) (H:XW.f k l0 l1=some r) :
  Calls Tryz.prog 37 #[.slice A0 l0.length c0,.slice A1 l1.length c1] w fun e w'=>∃ v0_:Value,e = .returned (v0_)∧Kd.R (Kd.int .i64) 3 w' w.heap.size (fun _=>True) v0_ r∧Below w.heap.size w w':=by
 obtain⟨HR0,HC0⟩:=h0
 obtain⟨HR1,HC1⟩:=h1
 have HB:=aM (Below.refl w.heap.size w)
 unfold XW.f at H
 obtain⟨y101,hy101⟩:∃ y_:List Int,y_=(([]:List Int)):=⟨_,rfl⟩
 replace H:(XW.l0 k l0 l1 y101 (l0.length:Int) 0)=some r:=yH H hy101
 have Ny101:=aM hy101
 clear hy101
 have H':=aM H
 clear H
 go_enter Tryz.func37,Tryz.ntmps37
 go_wp2_with ((with_reducible refine gate_dst (N:=7) rfl ?_);refine Kd.R_lit (Kd.int .i64) _ 3 ?hg (N:=7) ?hd (xs:=([]:List Int)) (inner:=[]) (ok:=fun _=>True) (okp:=fun _=>True) ?hr ?hp (fun _ hk=>hk) trivial (Below.refl _ _) (Nat.le_refl _) (by simp) ?_;(case hd=>rfl);(case hg=>rfl);(case hr=>first | (go_simp;done) | (go_simp;rfl));(case hp=>exact(Reps.none _ _));intro vz1 wz1 hoz1 hb hg_ hnew_;clear hg_ hnew_;(first | rw[← Ny101.out] at hoz1 | (simp only[Int.reduceToNat] at hoz1;rw[← Ny101.out] at hoz1));have HOz1:=aM (Kd.R_lower hoz1 (below_size (hX HB.out)));replace HB:=aS HB hb;clear hb hoz1)
 go_loopg [5,10] k (fun kq v5 v10 w'=>∃ (x5_1:List Int) (x10_1:Int),v10 = .int .i64 x10_1∧Aside0 (XW.l0 kq l0 l1 x5_1 (l0.length:Int) x10_1=some r)∧Aside0 (kq≤k)∧Aside0 (Kd.R (Kd.int .i64) 3 w' w.heap.size (fun _=>True) v5 x5_1)∧Aside0 (Below w.heap.size w w'))
 case atStart=>exact⟨(y101),(0),rS,H',⟨Nat.le_refl _⟩,⟨(rX HOz1.out)⟩,⟨(hX HB.out)⟩⟩
 case round =>
  clear H'
  obtain⟨x5_1,x10_1,rfl,HA,HKy1,HO_y1,HB⟩:=hrel
  cases gk with
  | zero=>exact absurd HA.out (by simp[XW.l0])
  | succ k1 =>
   have H:=HA.out
   clear HA
   simp only[XW.l0] at H
   revert H;refine iN ?_ ?_<;>intro c5b0 H
   ·obtain rfl:=sI H
    go_wp2
    go_ret
    exact⟨_,rE,(rX HO_y1.out),(hX HB.out)⟩
   replace H:=bE H;obtain⟨t104,A6,H⟩:=H
   replace H:=ifP H;obtain⟨c7,H⟩:=H
   have LMc7:=aM c7
   clear c7
   obtain⟨y105,hy105⟩:∃ y_:List Int,y_=(x5_1 ++ [t104]):=⟨_,rfl⟩
   replace H:(XW.l0 k1 l0 l1 y105 (l0.length:Int) (wrap64 (x10_1+1)))=some r:=yH H hy105
   have Ny105:=aM hy105
   clear hy105
   have H':=aM H
   clear H
   go_wp2_with (first | (refine gB 35 17 Tryz.func35 (XaF.calls _ _ _ _ _ _ _ _ _ _ (rW HR0 HB HC0) (rW HR1 HB HC1) A6.out) ?_;intro wx1 hb;replace HO_y1:=aQ HO_y1 hb;replace HB:=aS HB hb;clear hb) | ((with_reducible refine gate_builtin (b:=.append) (xs:=#[.tmp 13,.tmp 18]) rfl ?_);at_builtin;refine Kd.R_append (Kd.int .i64) (w0:=w) w.heap.size rfl (.tmp 13) (.tmp 18) 24 3 (.int .i64 0) 8 rfl Tryz.underlying24 info3 rfl (by decide) (by omega) u5 x5_1 t104 [.int .i64 t104] (fun _=>True) (fun _=>False) rfl rfl ?aP (fun _ hk=>hk.elim) ?aF ?aO ?aB ?aS ?aL ?_;(case aP=>exact rfl);(case aB=>exact(hX HB.out));(case aF=>exact(fun _ _=>trivial));(case aO=>exact(rX HO_y1.out));(case aS=>exact(below_size (hX HB.out)));(case aL=>have:=LMc7.out;omega);intro vx1 wx2 ho hb hg hat;rw[← Ny105.out] at ho;have HOx1:=aM (ho);replace HB:=aM (hb);clear HO_y1;clear ho hb hg hat))
   go_roundg k1
   case measure=>have:=HKy1.out;omega
   case rel=>exact⟨(y105),(wrap64 (x10_1+1)),rS,H',⟨by have:=HKy1.out;omega⟩,⟨(rX HOx1.out)⟩,⟨(hX HB.out)⟩⟩
def Xj.f (s0_0:List Int) (s0_1:Int) (s0_2:Int) (a1:Int):Option (Int × Int × Int):=if a1≤0 then (some (0,s0_1,s0_2)) else (if a1≤256 then ((Xaa.f s0_0 s0_1 s0_2).bind fun bt101=>(if a1=0 then (none) else (some (Int.tmod bt101.1 a1,bt101.2.1,bt101.2.2)))) else ((Xaa.f s0_0 s0_1 s0_2).bind fun bt104=>((Xaa.f s0_0 bt104.2.1 bt104.2.2).bind fun bt107=>((Xaa.f s0_0 bt107.2.1 bt107.2.2).bind fun bt110=>((Xaa.f s0_0 bt110.2.1 bt110.2.2).bind fun bt113=>(if a1=0 then (none) else (some (Int.tmod (wrap64 ((wrap64 ((wrap64 ((wrap64 (bt104.1 * 16777216))+(wrap64 (bt107.1 * 65536))))+(wrap64 (bt110.1 * 256))))+bt113.1)) a1,bt113.2.1,bt113.2.2))))))))
theorem Xj.calls (g:Nat) (s0_0:List Int) (s0_1:Int) (s0_2:Int) (a1:Int) (r1:Int) (r2:Int) (r3:Int) (w0 w:World) (hI:IsS146 w0 w g s0_0 s0_1 s0_2) (hB:Below w0.heap.size w0 w) (H:Xj.f s0_0 s0_1 s0_2 a1=some (r1,r2,r3)) :
  Calls Tryz.prog 76 #[.pointer (some ⟨g,0,none⟩),.int .i64 a1] w fun e w'=>e = .returned (.int .i64 r1)∧IsS146 w0 w' g s0_0 r2 r3∧Below w0.heap.size w0 w'∧KeepBut w w' g none:=by
 have HI0:=aM hI
 have HK:=aM (KeepBut.refl w g none)
 have HL:=aM hB.size
 clear hI
 have HW0:=aM hB.size
 have HB:=aM hB
 clear hB
 unfold Xj.f at H
 go_enter Tryz.func76,Tryz.ntmps76
 revert H;refine iP ?_ ?_<;>intro c3b0 H
 ·simp only[Option.some.injEq,Prod.mk.injEq] at H
  obtain⟨rfl,rfl,rfl⟩:=H
  go_wp2
  go_ret
  exact⟨rE,(i146 HI0.out),(hY HB.out (IsS146.ge HI0.out)),(kX HK.out)⟩
 revert H;refine iP ?_ ?_<;>intro c4b0 H
 ·replace H:=bE H;obtain⟨⟨t101,t102,t103⟩,A5,H⟩:=H
  try dsimp only at H
  replace H:=ifN H;obtain⟨c6,H⟩:=H
  obtain⟨c6b0,c6b1⟩:=eqF c6
  simp only[Option.some.injEq,Prod.mk.injEq] at H
  obtain⟨rfl,rfl,rfl⟩:=H
  go_wp2_with (refine goesM 143 14 Tryz.func143 #[.pointer (some ⟨g,0,none⟩)] ?_;refine(Xaa.calls g s0_0 s0_1 s0_2 t101 t102 t103 w0 _ (by repeat (first | (with_reducible first | exact HI0.out | apply IsS146.alloc | apply IsS146.drewN | apply IsS146.drew | apply IsS146.set_1 | apply IsS146.set_2) | exact HI0.out)) (by repeat (first | (with_reducible first | exact HB.out | apply below_alloc | apply pw_below_drewN | apply below_drew1 | refine below_set ?_ (IsS146.ge HI0.out)) | exact HB.out)) A5.out).mono ?_;rintro e wz1 ⟨rfl,hi,hb,hk⟩;refine⟨_,rfl,?_⟩;replace HK:=aM (KeepBut.trans (kX HK.out) hk (.inl rfl));replace HB:=aM (hb);replace HI0:=aM (hi);clear hb hk hi)
  go_ret
  exact⟨rE,(i146 HI0.out),(hY HB.out (IsS146.ge HI0.out)),(kX HK.out)⟩
 replace H:=bE H;obtain⟨⟨t104,t105,t106⟩,A8,H⟩:=H
 try dsimp only at H
 replace H:=bE H;obtain⟨⟨t107,t108,t109⟩,A9,H⟩:=H
 try dsimp only at H
 replace H:=bE H;obtain⟨⟨t110,t111,t112⟩,A10,H⟩:=H
 try dsimp only at H
 replace H:=bE H;obtain⟨⟨t113,t114,t115⟩,A11,H⟩:=H
 try dsimp only at H
 replace H:=ifN H;obtain⟨c12,H⟩:=H
 obtain⟨c12b0,c12b1⟩:=eqF c12
 simp only[Option.some.injEq,Prod.mk.injEq] at H
 obtain⟨rfl,rfl,rfl⟩:=H
 go_wp2_with (first | (refine goesM 143 18 Tryz.func143 #[.pointer (some ⟨g,0,none⟩)] ?_;refine(Xaa.calls g s0_0 s0_1 s0_2 t104 t105 t106 w0 _ (by repeat (first | (with_reducible first | exact HI0.out | apply IsS146.alloc | apply IsS146.drewN | apply IsS146.drew | apply IsS146.set_1 | apply IsS146.set_2) | exact HI0.out)) (by repeat (first | (with_reducible first | exact HB.out | apply below_alloc | apply pw_below_drewN | apply below_drew1 | refine below_set ?_ (IsS146.ge HI0.out)) | exact HB.out)) A8.out).mono ?_;rintro e wz1 ⟨rfl,hi,hb,hk⟩;refine⟨_,rfl,?_⟩;replace HK:=aM (KeepBut.trans (kX HK.out) hk (.inl rfl));replace HB:=aM (hb);replace HI0:=aM (hi);clear hb hk hi) | (refine goesM 143 20 Tryz.func143 #[.pointer (some ⟨g,0,none⟩)] ?_;refine(Xaa.calls g s0_0 t105 t106 t107 t108 t109 w0 _ (by repeat (first | (with_reducible first | exact HI0.out | apply IsS146.alloc | apply IsS146.drewN | apply IsS146.drew | apply IsS146.set_1 | apply IsS146.set_2) | exact HI0.out)) (by repeat (first | (with_reducible first | exact HB.out | apply below_alloc | apply pw_below_drewN | apply below_drew1 | refine below_set ?_ (IsS146.ge HI0.out)) | exact HB.out)) A9.out).mono ?_;rintro e wz2 ⟨rfl,hi,hb,hk⟩;refine⟨_,rfl,?_⟩;replace HK:=aM (KeepBut.trans (kX HK.out) hk (.inl rfl));replace HB:=aM (hb);replace HI0:=aM (hi);clear hb hk hi) | (refine goesM 143 22 Tryz.func143 #[.pointer (some ⟨g,0,none⟩)] ?_;refine(Xaa.calls g s0_0 t108 t109 t110 t111 t112 w0 _ (by repeat (first | (with_reducible first | exact HI0.out | apply IsS146.alloc | apply IsS146.drewN | apply IsS146.drew | apply IsS146.set_1 | apply IsS146.set_2) | exact HI0.out)) (by repeat (first | (with_reducible first | exact HB.out | apply below_alloc | apply pw_below_drewN | apply below_drew1 | refine below_set ?_ (IsS146.ge HI0.out)) | exact HB.out)) A10.out).mono ?_;rintro e wz3 ⟨rfl,hi,hb,hk⟩;refine⟨_,rfl,?_⟩;replace HK:=aM (KeepBut.trans (kX HK.out) hk (.inl rfl));replace HB:=aM (hb);replace HI0:=aM (hi);clear hb hk hi) | (refine goesM 143 24 Tryz.func143 #[.pointer (some ⟨g,0,none⟩)] ?_;refine(Xaa.calls g s0_0 t111 t112 t113 t114 t115 w0 _ (by repeat (first | (with_reducible first | exact HI0.out | apply IsS146.alloc | apply IsS146.drewN | apply IsS146.drew | apply IsS146.set_1 | apply IsS146.set_2) | exact HI0.out)) (by repeat (first | (with_reducible first | exact HB.out | apply below_alloc | apply pw_below_drewN | apply below_drew1 | refine below_set ?_ (IsS146.ge HI0.out)) | exact HB.out)) A11.out).mono ?_;rintro e wz4 ⟨rfl,hi,hb,hk⟩;refine⟨_,rfl,?_⟩;replace HK:=aM (KeepBut.trans (kX HK.out) hk (.inl rfl));replace HB:=aM (hb);replace HI0:=aM (hi);clear hb hk hi))
 go_ret
 exact⟨rE,(i146 HI0.out),(hY HB.out (IsS146.ge HI0.out)),(kX HK.out)⟩
end Go.Proofs.YthejoblnfpaojaaGreat.P
