/- A part of the proof of the law FnStarts: texts of this seat, merged (words, printed functions of the program, plain lemmas). Conditions: none of its own. -/
import Derived.Test.YthejoblnfpaojaaGreatPkFnStarts10
set_option linter.unusedSimpArgs false
set_option linter.unusedVariables false
set_option maxHeartbeats 8000000
set_option maxRecDepth 100000
namespace Go.Proofs.YthejoblnfpaojaaGreat.P
open Go.Proofs.YthejoblnfpaojaaGreatZ Go.RowKit Go.Proofs.YthejoblnfpaojaaGreatW.PrintWords Go.Proofs.YthejoblnfpaojaaGreatW.PrintLast Go.Proofs.YthejoblnfpaojaaGreatW.PrintMore
attribute [local go_sem] max2_int min2_int max_two min_two max_three min_three max_four min_four   -- for this text's walks alone
attribute [local go_sem high] eqA78 eqA152 eqA154
mutual
def Xo.l0:Nat→Int→List (S78)→Int→Bool→List (S152)→List (S154)→List (S78)→Int→Bool→List (S152)→List (S154)→Option (Bool)
 | 0,_,_,_,_,_,_,_,_,_,_,_=>none
 | k+1,x5,x102000,x102001,x102002,x102003,x102004,x103000,x103001,x103002,x103003,x103004=>if x5<(x102000.length:Int) then (if 0≤x5 then (if x5<(x103000.length:Int) then (if (!(((rd_T78 x102000 x5).f0) == ((rd_T78 x103000 x5).f0)) || (!(((rd_T78 x102000 x5).f1) == ((rd_T78 x103000 x5).f1)) || (!(((rd_T78 x102000 x5).f2) == ((rd_T78 x103000 x5).f2)))))=true then (none) else (Xo.l0 k (wrap64 (x5+1)) x102000 x102001 x102002 x102003 x102004 x103000 x103001 x103002 x103003 x103004)) else (none)) else (none)) else (Xo.l1 k 0 x102000 x102001 x102002 x102003 x102004)
def Xo.l1:Nat→Int→List (S78)→Int→Bool→List (S152)→List (S154)→Option (Bool)
 | 0,_,_,_,_,_,_=>none
 | k+1,x6,x102000,x102001,x102002,x102003,x102004=>if x6<(x102003.length:Int) then (none) else (Xo.l2 k 0 x102000 x102001 x102002 x102003 x102004)
def Xo.l2:Nat→Int→List (S78)→Int→Bool→List (S152)→List (S154)→Option (Bool)
 | 0,_,_,_,_,_,_=>none
 | k+1,x7,x102000,x102001,x102002,x102003,x102004=>if x7<(x102004.length:Int) then (none) else (some true)
end
def Xo.f (k:Nat) (l0_0:List (S78)) (a0_1:Int) (a0_2:Bool) (l0_3:List (S152)) (l0_4:List (S154)) (l1_0:List (S78)) (a1_1:Int) (a1_2:Bool) (l1_3:List (S152)) (l1_4:List (S154)):Option (Bool):=if a0_1=a1_1 then (if (a0_2 != a1_2)=true then (none) else (if (l0_0.length:Int)=(l1_0.length:Int) then (if (l0_3.length:Int)=(l1_3.length:Int) then (if (l0_4.length:Int)=(l1_4.length:Int) then (Xo.l0 k 0 l0_0 a0_1 a0_2 l0_3 l0_4 l1_0 a1_1 a1_2 l1_3 l1_4) else (none)) else (none)) else (none))) else (none)
theorem Xo.calls (k:Nat) (A0_0:Option Addr) (c0_0:Nat) (l0_0:List (S78)) (a0_1:Int) (a0_2:Bool) (A0_3:Option Addr) (c0_3:Nat) (l0_3:List (S152)) (A0_4:Option Addr) (c0_4:Nat) (l0_4:List (S154)) (A1_0:Option Addr) (c1_0:Nat) (l1_0:List (S78)) (a1_1:Int) (a1_2:Bool) (A1_3:Option Addr) (c1_3:Nat) (l1_3:List (S152)) (A1_4:Option Addr) (c1_4:Nat) (l1_4:List (S154)) (r:Bool) (w:World) (h0_0:Rw k78 w A0_0 c0_0 l0_0) (h0_3:Rw k152 w A0_3 c0_3 l0_3) (h0_4:Rw k154 w A0_4 c0_4 l0_4) (h1_0:Rw k78 w A1_0 c1_0 l1_0) (h1_3:Rw k152 w A1_3 c1_3 l1_3) (h1_4:Rw k154 w A1_4 c1_4 l1_4) (H:Xo.f k l0_0 a0_1 a0_2 l0_3 l0_4 l1_0 a1_1 a1_2 l1_3 l1_4=some r) :
  Calls Tryz.prog 84 #[.agg #[.slice A0_0 l0_0.length c0_0,.int .i64 a0_1,.bool a0_2,.slice A0_3 l0_3.length c0_3,.slice A0_4 l0_4.length c0_4],.agg #[.slice A1_0 l1_0.length c1_0,.int .i64 a1_1,.bool a1_2,.slice A1_3 l1_3.length c1_3,.slice A1_4 l1_4.length c1_4]] w fun e w'=>e = .returned (.bool r)∧Below w.heap.size w w':=by
 have hu108:=Tryz.underlying108
 have hu78:=Tryz.underlying78
 have hu152:=Tryz.underlying152
 have hu154:=Tryz.underlying154
 obtain⟨HR0_0,HC0_0⟩:=h0_0
 obtain⟨HR0_3,HC0_3⟩:=h0_3
 obtain⟨HR0_4,HC0_4⟩:=h0_4
 obtain⟨HR1_0,HC1_0⟩:=h1_0
 obtain⟨HR1_3,HC1_3⟩:=h1_3
 obtain⟨HR1_4,HC1_4⟩:=h1_4
 have HB:=aM (Below.refl w.heap.size w)
 unfold Xo.f at H
 replace H:=ifP H;obtain⟨c3,H⟩:=H
 obtain⟨c3b0,c3b1⟩:=eqT c3
 clear c3
 replace H:=ifN H;obtain⟨c4,H⟩:=H
 have c4b0:(a0_2 != a1_2)=false:=by simpa using c4
 (try (have c4b1:decide (a0_2=a1_2)=true:=by simpa using c4))
 (try (have c4b2:(a0_2 == a1_2)=true:=by simpa using c4))
 clear c4
 replace H:=ifP H;obtain⟨c5,H⟩:=H
 obtain⟨c5b0,c5b1⟩:=eqT c5
 have c5b2:(l0_0.length == l1_0.length)=true:=by first | simpa using c5 | (simp at c5 ⊢;omega)
 clear c5
 replace H:=ifP H;obtain⟨c6,H⟩:=H
 obtain⟨c6b0,c6b1⟩:=eqT c6
 have c6b2:(l0_3.length == l1_3.length)=true:=by first | simpa using c6 | (simp at c6 ⊢;omega)
 clear c6
 replace H:=ifP H;obtain⟨c7,H⟩:=H
 obtain⟨c7b0,c7b1⟩:=eqT c7
 have c7b2:(l0_4.length == l1_4.length)=true:=by first | simpa using c7 | (simp at c7 ⊢;omega)
 clear c7
 have H':=aM H
 clear H
 go_enter Tryz.func84,Tryz.ntmps84
 go_wp2_with (first | ((with_reducible refine gate_dst (N:=2) rfl ?_);(try (refine gate_guard (by rfl) ?_;dsimp only));refine boxF 2 #[.slice A0_0 l0_0.length c0_0,.int .i64 a0_1,.bool a0_2,.slice A0_3 l0_3.length c0_3,.slice A0_4 l0_4.length c0_4] 108 ?_;intro gbz1 hg wz1 hbox hb;have BKz1:=aM (hbox);have GWz1:=aG hg HB;have GEz1:=aG hg HB;replace HB:=aS HB hb;clear hb hbox hg) | ((with_reducible refine gate_dst (N:=3) rfl ?_);(try (refine gate_guard (by rfl) ?_;dsimp only));refine boxF 3 #[.slice A1_0 l1_0.length c1_0,.int .i64 a1_1,.bool a1_2,.slice A1_3 l1_3.length c1_3,.slice A1_4 l1_4.length c1_4] 108 ?_;intro gbz2 hg wz2 hbox hb;have BKz2:=aM (hbox);have GWz2:=aG hg HB;have GEz2:=aG hg HB;have NBz1:=aL hg BKz1;have NBz2:=aR hg BKz1;replace BKz1:=aB BKz1 hb;replace HB:=aS HB hb;clear hb hbox hg;have hnbz1:=NBz1.out;have hncz1:=NBz2.out;have hczz1:=cZ5 BKz1.out;have hczz6:=cZ5 BKz2.out))
 repeat (go_quiet (fail);try go_wp2_with (first | ((with_reducible refine gate_dst (N:=2) rfl ?_);(try (refine gate_guard (by rfl) ?_;dsimp only));refine boxF 2 #[.slice A0_0 l0_0.length c0_0,.int .i64 a0_1,.bool a0_2,.slice A0_3 l0_3.length c0_3,.slice A0_4 l0_4.length c0_4] 108 ?_;intro gbz1 hg wz1 hbox hb;have BKz1:=aM (hbox);have GWz1:=aG hg HB;have GEz1:=aG hg HB;replace HB:=aS HB hb;clear hb hbox hg) | ((with_reducible refine gate_dst (N:=3) rfl ?_);(try (refine gate_guard (by rfl) ?_;dsimp only));refine boxF 3 #[.slice A1_0 l1_0.length c1_0,.int .i64 a1_1,.bool a1_2,.slice A1_3 l1_3.length c1_3,.slice A1_4 l1_4.length c1_4] 108 ?_;intro gbz2 hg wz2 hbox hb;have BKz2:=aM (hbox);have GWz2:=aG hg HB;have GEz2:=aG hg HB;have NBz1:=aL hg BKz1;have NBz2:=aR hg BKz1;replace BKz1:=aB BKz1 hb;replace HB:=aS HB hb;clear hb hbox hg;have hnbz1:=NBz1.out;have hncz1:=NBz2.out;have hczz1:=cZ5 BKz1.out;have hczz6:=cZ5 BKz2.out)))
 go_loopg [5] k (fun kq v5 w'=>∃ (x5_1:Int),v5 = .int .i64 x5_1∧Aside0 (Xo.l0 kq x5_1 l0_0 a0_1 a0_2 l0_3 l0_4 l1_0 a1_1 a1_2 l1_3 l1_4=some r)∧Aside0 (kq≤k)∧Aside0 (w'.heap[gbz1]? = some (.cells #[(.slice A0_0 l0_0.length c0_0),.int .i64 a0_1,.bool a0_2,(.slice A0_3 l0_3.length c0_3),(.slice A0_4 l0_4.length c0_4)] 108 (0,0)))∧Aside0 (w'.heap[gbz2]? = some (.cells #[(.slice A1_0 l1_0.length c1_0),.int .i64 a1_1,.bool a1_2,(.slice A1_3 l1_3.length c1_3),(.slice A1_4 l1_4.length c1_4)] 108 (0,0)))∧Aside0 (Below w.heap.size w w'))
 case atStart=>exact⟨(0),rS,H',⟨Nat.le_refl _⟩,⟨(bX BKz1.out)⟩,⟨(bX BKz2.out)⟩,⟨(hX HB.out)⟩⟩
 case round =>
  clear H'
  try clear c3
  try clear c3b0
  try clear c3b1
  try clear c4
  try clear c4b0
  try clear c4b1
  try clear c4b2
  try clear c5
  try clear c5b0
  try clear c5b1
  try clear c5b2
  try clear c6
  try clear c6b0
  try clear c6b1
  try clear c6b2
  try clear c7
  try clear c7b0
  try clear c7b1
  try clear c7b2
  try clear hczz1
  try clear hczz6
  obtain⟨x5_1,rfl,HA,HKy1,BKz1,BKz2,HB⟩:=hrel
  cases gk with
  | zero=>exact absurd HA.out (by simp[Xo.l0])
  | succ k1 =>
   have H:=HA.out
   clear HA
   simp only[Xo.l0] at H
   revert H;refine iP ?_ ?_<;>intro c13b0 H
   ·replace H:=ifP H;obtain⟨c14,H⟩:=H
    have c14b0:=decide_eq_true c14
    clear c14
    replace H:=ifQ H;obtain⟨c15b0,H⟩:=H
    replace H:=ifN H;obtain⟨c16,H⟩:=H
    have c16b0:(!(((rd_T78 l0_0 x5_1).f0) == ((rd_T78 l1_0 x5_1).f0)) || (!(((rd_T78 l0_0 x5_1).f1) == ((rd_T78 l1_0 x5_1).f1)) || (!(((rd_T78 l0_0 x5_1).f2) == ((rd_T78 l1_0 x5_1).f2)))))=false:=by simpa using c16
    clear c16
    have H':=aM H
    clear H
    have hnbx1:=NBz1.out
    have hncx1:=NBz2.out
    have hczx1:=cZ5 BKz1.out
    obtain⟨adx1,ex1,px1,qx1,hxx1⟩:=at_T78c HR0_0 HB x5_1
    cases ex1
    have hczx6:=cZ5 BKz2.out
    obtain⟨adx2,ex2,px2,qx2,hxx4⟩:=at_T78c HR1_0 HB x5_1
    cases ex2
    go_wp2
    repeat (go_quiet (fail);try go_wp2)
    go_roundg k1
    case measure=>have:=HKy1.out;omega
    case rel=>exact⟨(wrap64 (x5_1+1)),rS,H',⟨by have:=HKy1.out;omega⟩,⟨(bX BKz1.out)⟩,⟨(bX BKz2.out)⟩,⟨(hX HB.out)⟩⟩
   have H':=aM H
   clear H
   have hnbx1:=NBz1.out
   have hncx1:=NBz2.out
   have hczx1:=cZ5 BKz1.out
   go_wp2
   repeat (go_quiet (fail);try go_wp2)
   go_loopg [6] k1 (fun kq v6 w'=>∃ (x6_2:Int),v6 = .int .i64 x6_2∧Aside0 (Xo.l1 kq x6_2 l0_0 a0_1 a0_2 l0_3 l0_4=some r)∧Aside0 (kq≤k1)∧Aside0 (w'.heap[gbz1]? = some (.cells #[(.slice A0_0 l0_0.length c0_0),.int .i64 a0_1,.bool a0_2,(.slice A0_3 l0_3.length c0_3),(.slice A0_4 l0_4.length c0_4)] 108 (0,0)))∧Aside0 (w'.heap[gbz2]? = some (.cells #[(.slice A1_0 l1_0.length c1_0),.int .i64 a1_1,.bool a1_2,(.slice A1_3 l1_3.length c1_3),(.slice A1_4 l1_4.length c1_4)] 108 (0,0)))∧Aside0 (Below w.heap.size w w'))
   case atStart=>exact⟨(0),rS,H',⟨Nat.le_refl _⟩,⟨(bX BKz1.out)⟩,⟨(bX BKz2.out)⟩,⟨(hX HB.out)⟩⟩
   case round =>
    clear H'
    try clear c3
    try clear c3b0
    try clear c3b1
    try clear c4
    try clear c4b0
    try clear c4b1
    try clear c4b2
    try clear c5
    try clear c5b0
    try clear c5b1
    try clear c5b2
    try clear c6
    try clear c6b0
    try clear c6b1
    try clear c6b2
    try clear c7
    try clear c7b0
    try clear c7b1
    try clear c7b2
    try clear c13b0
    try clear hczz1
    try clear hczz6
    try clear hczx1
    obtain⟨x6_2,rfl,HA,HKw1,BKz1,BKz2,HB⟩:=hrel
    cases gk with
    | zero=>exact absurd HA.out (by simp[Xo.l1])
    | succ k2 =>
     have H:=HA.out
     clear HA
     simp only[Xo.l1] at H
     replace H:=ifN H;obtain⟨c22,H⟩:=H
     have c22b0:=decide_eq_false c22
     clear c22
     have H':=aM H
     clear H
     have hnbv1:=nB NBz1 NBz2
     have hczv1:=cZ5 BKz1.out
     go_wp2
     repeat (go_quiet (fail);try go_wp2)
     go_loopg [7] k2 (fun kq v7 w'=>∃ (x7_3:Int),v7 = .int .i64 x7_3∧Aside0 (Xo.l2 kq x7_3 l0_0 a0_1 a0_2 l0_3 l0_4=some r)∧Aside0 (kq≤k2)∧Aside0 (w'.heap[gbz1]? = some (.cells #[(.slice A0_0 l0_0.length c0_0),.int .i64 a0_1,.bool a0_2,(.slice A0_3 l0_3.length c0_3),(.slice A0_4 l0_4.length c0_4)] 108 (0,0)))∧Aside0 (w'.heap[gbz2]? = some (.cells #[(.slice A1_0 l1_0.length c1_0),.int .i64 a1_1,.bool a1_2,(.slice A1_3 l1_3.length c1_3),(.slice A1_4 l1_4.length c1_4)] 108 (0,0)))∧Aside0 (Below w.heap.size w w'))
     case atStart=>exact⟨(0),rS,H',⟨Nat.le_refl _⟩,⟨(bX BKz1.out)⟩,⟨(bX BKz2.out)⟩,⟨(hX HB.out)⟩⟩
     case round =>
      clear H'
      try clear c3
      try clear c3b0
      try clear c3b1
      try clear c4
      try clear c4b0
      try clear c4b1
      try clear c4b2
      try clear c5
      try clear c5b0
      try clear c5b1
      try clear c5b2
      try clear c6
      try clear c6b0
      try clear c6b1
      try clear c6b2
      try clear c7
      try clear c7b0
      try clear c7b1
      try clear c7b2
      try clear c13b0
      try clear c22
      try clear c22b0
      try clear hczz1
      try clear hczz6
      try clear hczx1
      try clear hczv1
      obtain⟨x7_3,rfl,HA,HKu1,BKz1,BKz2,HB⟩:=hrel
      cases gk with
      | zero=>exact absurd HA.out (by simp[Xo.l2])
      | succ k3 =>
       have H:=HA.out
       clear HA
       simp only[Xo.l2] at H
       replace H:=ifN H;obtain⟨c25,H⟩:=H
       have c25b0:=decide_eq_false c25
       clear c25
       obtain rfl:=sI H
       have hnbt1:=nB NBz1 NBz2
       have hczt1:=cZ5 BKz1.out
       go_wp2
       repeat (go_quiet (fail);try go_wp2)
       go_ret
       exact⟨rE,(hX HB.out)⟩
end Go.Proofs.YthejoblnfpaojaaGreat.P
namespace Go.Proofs.YthejoblnfpaojaaGreat.P
open Go.Proofs.YthejoblnfpaojaaGreatZ Go.RowKit Go.Proofs.YthejoblnfpaojaaGreatW.PrintWords Go.Proofs.YthejoblnfpaojaaGreatW.PrintLast Go.Proofs.YthejoblnfpaojaaGreatW.PrintMore
attribute [local go_sem] max2_int min2_int max_two min_two max_three min_three max_four min_four   -- for this text's walks alone
def slices_Equal_int_int.l0:Nat→List Int→List Int→Int→Int→Option (Bool)
 | 0,_,_,_,_=>none
 | k+1,x0,x1,x12,x13=>if x13<x12 then (if 0≤x13 then (if x13<(x0.length:Int) then (if x13<(x1.length:Int) then (if (rd x0 x13)=(rd x1 x13) then (slices_Equal_int_int.l0 k x0 x1 x12 (wrap64 (x13+1))) else (some false)) else (none)) else (none)) else (none)) else (some true)
def slices_Equal_int_int.f (k:Nat) (l0:List Int) (l1:List Int):Option (Bool):=if (l0.length:Int)=(l1.length:Int) then (slices_Equal_int_int.l0 k l0 l1 (l0.length:Int) 0) else (some false)
theorem slices_Equal_int_int.calls (k:Nat) (A0:Option Addr) (c0:Nat) (l0:List Int) (A1:Option Addr) (c1:Nat) (l1:List Int) (r:Bool) (w:World) (hr0:Kd.C (Kd.int .i64) w A0 l0.length l0) (hc0:l0.length≤c0) (hr1:Kd.C (Kd.int .i64) w A1 l1.length l1) (hc1:l1.length≤c1) (H:slices_Equal_int_int.f k l0 l1=some r) :
  Calls Tryz.prog 135 #[.slice A0 l0.length c0,.slice A1 l1.length c1] w fun e w'=>e = .returned (.bool r)∧Drawn0 w w':=by
 have HR0:=aM hr0
 have HC0:=aM hc0
 clear hr0 hc0
 have HR1:=aM hr1
 have HC1:=aM hc1
 clear hr1 hc1
 unfold slices_Equal_int_int.f at H
 go_enter Tryz.func135,Tryz.ntmps135
 by_cases c3:(l0.length:Int)=(l1.length:Int)
 case neg =>
  rw[if_neg c3] at H
  obtain⟨c3b0,c3b1⟩:=eqF c3
  have c3b2:(l0.length == l1.length)=false:=by first | simpa using c3 | (simp at c3 ⊢;omega)
  obtain rfl:=sI H
  go_wp2
  repeat (go_quiet (fail);try go_wp2)
  go_ret
  exact⟨by first | rfl | (simp;done) | (simp[*];done),dX⟩
 rw[if_pos c3] at H
 obtain⟨c3b0,c3b1⟩:=eqT c3
 have c3b2:(l0.length == l1.length)=true:=by first | simpa using c3 | (simp at c3 ⊢;omega)
 clear c3
 have H':=aM H
 clear H
 go_wp2
 repeat (go_quiet (fail);try go_wp2)
 go_loopg [13] k (fun kq v13 w'=>∃ (x13_1:Int),v13 = .int .i64 x13_1∧Aside0 (slices_Equal_int_int.l0 kq l0 l1 (l0.length:Int) x13_1=some r)∧Aside0 (kq≤k)∧Drawn0 w w')
 case atStart=>exact⟨(0),rS,H',⟨Nat.le_refl _⟩,dX⟩
 case round =>
  clear H'
  try clear c3
  try clear c3b0
  try clear c3b1
  try clear c3b2
  obtain⟨x13_1,rfl,HA,HKy1,⟨my1,rfl⟩⟩:=hrel
  cases gk with
  | zero=>exact absurd HA.out (by simp[slices_Equal_int_int.l0])
  | succ k1 =>
   have H:=HA.out
   clear HA
   simp only[slices_Equal_int_int.l0] at H
   revert H;refine iN ?_ ?_<;>intro c4b0 H
   ·obtain rfl:=sI H
    go_wp2
    repeat (go_quiet (fail);try go_wp2)
    go_ret
    exact⟨by first | rfl | (simp;done) | (simp[*];done),dX⟩
   replace H:=ifQ H;obtain⟨c5b0,H⟩:=H
   replace H:=ifQ H;obtain⟨c6b0,H⟩:=H
   replace H:=ifQ H;obtain⟨c7b0,H⟩:=H
   revert H;refine eN ?_ ?_<;>intro c8b0 c8b1 H
   ·obtain rfl:=sI H
    have px1:0≤(x13_1:Int):=odA
    have qx1:x13_1<(l0.length:Int):=odA
    obtain⟨adx1,ex1,hxx1⟩:=Kd.at_int HR0.out x13_1 px1 qx1
    cases ex1
    replace px1:=eq_true px1
    replace qx1:=eq_true qx1
    have px2:0≤(x13_1:Int):=odA
    have qx2:x13_1<(l1.length:Int):=odA
    obtain⟨adx2,ex2,hxx2⟩:=Kd.at_int HR1.out x13_1 px2 qx2
    cases ex2
    replace px2:=eq_true px2
    replace qx2:=eq_true qx2
    go_wp2
    repeat (go_quiet (fail);try go_wp2)
    go_ret
    exact⟨by first | rfl | (simp;done) | (simp[*];done),dX⟩
   have H':=aM H
   clear H
   have px1:0≤(x13_1:Int):=odA
   have qx1:x13_1<(l0.length:Int):=odA
   obtain⟨adx1,ex1,hxx1⟩:=Kd.at_int HR0.out x13_1 px1 qx1
   cases ex1
   replace px1:=eq_true px1
   replace qx1:=eq_true qx1
   have px2:0≤(x13_1:Int):=odA
   have qx2:x13_1<(l1.length:Int):=odA
   obtain⟨adx2,ex2,hxx2⟩:=Kd.at_int HR1.out x13_1 px2 qx2
   cases ex2
   replace px2:=eq_true px2
   replace qx2:=eq_true qx2
   go_wp2
   repeat (go_quiet (fail);try go_wp2)
   go_roundg k1
   case measure=>have:=HKy1.out;omega
   case rel=>exact⟨(wrap64 (x13_1+1)),rS,H',⟨by have:=HKy1.out;omega⟩,dX⟩
def Xaj.f (l0_0:List Int) (a0_1:Int):Option (Bool):=some (a0_1 == 5)
theorem Xaj.calls (A0_0:Option Addr) (c0_0:Nat) (l0_0:List Int) (a0_1:Int) (r:Bool) (w:World) (h0_0:Rw (Kd.int .i64) w A0_0 c0_0 l0_0) (H:Xaj.f l0_0 a0_1=some r) :
  Calls Tryz.prog 198 #[.agg #[.slice A0_0 l0_0.length c0_0,.int .i64 a0_1]] w fun e w'=>e = .returned (.bool r)∧Below w.heap.size w w':=by
 have hu26:=Tryz.underlying26
 obtain⟨HR0_0,HC0_0⟩:=h0_0
 have HB:=aM (Below.refl w.heap.size w)
 unfold Xaj.f at H
 obtain rfl:=sI H
 go_enter Tryz.func198,Tryz.ntmps198
 go_wp2_with (refine boxE 1 #[.slice A0_0 l0_0.length c0_0,.int .i64 a0_1] 26 ?_;intro gbz1 hg wz1 hbox hb;have BKz1:=aM (hbox);have GWz1:=aG hg HB;replace HB:=aS HB hb;clear hb hbox hg;have hczz1:=cZ2 BKz1.out)
 go_ret
 exact⟨rE,(hX HB.out)⟩
def XaR.f (a0_0:Int) (a0_1:Int) (a0_2:Int) (a0_3:Int) (a0_4:Int) (a0_5:Int) (a0_6:Int) (a0_7:Int) (l0_8:List Int) (a1_0:Int) (a1_1:Int) (a1_2:Int) (a1_3:Int) (a1_4:Int) (a1_5:Int) (a1_6:Int) (a1_7:Int) (l1_8:List Int):Option (Bool):=if a0_6 ≥ 0 then (some (decide (a0_6<a1_4))) else (some false)
theorem XaR.calls (a0_0:Int) (a0_1:Int) (a0_2:Int) (a0_3:Int) (a0_4:Int) (a0_5:Int) (a0_6:Int) (a0_7:Int) (A0_8:Option Addr) (c0_8:Nat) (l0_8:List Int) (a1_0:Int) (a1_1:Int) (a1_2:Int) (a1_3:Int) (a1_4:Int) (a1_5:Int) (a1_6:Int) (a1_7:Int) (A1_8:Option Addr) (c1_8:Nat) (l1_8:List Int) (r:Bool) (w:World) (h0_8:Rw (Kd.int .i64) w A0_8 c0_8 l0_8) (h1_8:Rw (Kd.int .i64) w A1_8 c1_8 l1_8) (H:XaR.f a0_0 a0_1 a0_2 a0_3 a0_4 a0_5 a0_6 a0_7 l0_8 a1_0 a1_1 a1_2 a1_3 a1_4 a1_5 a1_6 a1_7 l1_8=some r) :
  Calls Tryz.prog 61 #[.agg #[.int .i64 a0_0,.int .i64 a0_1,.int .i64 a0_2,.int .i64 a0_3,.int .i64 a0_4,.int .i64 a0_5,.int .i64 a0_6,.int .i64 a0_7,.slice A0_8 l0_8.length c0_8],.agg #[.int .i64 a1_0,.int .i64 a1_1,.int .i64 a1_2,.int .i64 a1_3,.int .i64 a1_4,.int .i64 a1_5,.int .i64 a1_6,.int .i64 a1_7,.slice A1_8 l1_8.length c1_8]] w fun e w'=>e = .returned (.bool r)∧Below w.heap.size w w':=by
 have hu80:=Tryz.underlying80
 obtain⟨HR0_8,HC0_8⟩:=h0_8
 obtain⟨HR1_8,HC1_8⟩:=h1_8
 have HB:=aM (Below.refl w.heap.size w)
 unfold XaR.f at H
 go_enter Tryz.func61,Tryz.ntmps61
 go_wp2_with (refine boxE 2 #[.int .i64 a0_0,.int .i64 a0_1,.int .i64 a0_2,.int .i64 a0_3,.int .i64 a0_4,.int .i64 a0_5,.int .i64 a0_6,.int .i64 a0_7,.slice A0_8 l0_8.length c0_8] 80 ?_;intro gbz1 hg wz1 hbox hb;have BKz1:=aM (hbox);have GWz1:=aG hg HB;replace HB:=aS HB hb;clear hb hbox hg;refine Stop.out ?_)
 refine⟨?_⟩
 revert H;refine iN ?_ ?_<;>intro c3b0 H
 ·obtain rfl:=sI H
  go_wp2_with (refine boxE 3 #[.int .i64 a1_0,.int .i64 a1_1,.int .i64 a1_2,.int .i64 a1_3,.int .i64 a1_4,.int .i64 a1_5,.int .i64 a1_6,.int .i64 a1_7,.slice A1_8 l1_8.length c1_8] 80 ?_;intro gbz2 hg wz2 hbox hb;have BKz2:=aM (hbox);have GWz2:=aG hg HB;have GEz2:=aG hg HB;have NBz1:=aL hg BKz1;have NBz2:=aR hg BKz1;replace BKz1:=aB BKz1 hb;replace HB:=aS HB hb;clear hb hbox hg;have hnbz1:=NBz1.out;have hncz1:=NBz2.out;have hczz1:=cZ9 BKz1.out)
  go_ret
  exact⟨rE,(hX HB.out)⟩
 obtain rfl:=sI H
 go_wp2_with (refine boxE 3 #[.int .i64 a1_0,.int .i64 a1_1,.int .i64 a1_2,.int .i64 a1_3,.int .i64 a1_4,.int .i64 a1_5,.int .i64 a1_6,.int .i64 a1_7,.slice A1_8 l1_8.length c1_8] 80 ?_;intro gbz2 hg wz2 hbox hb;have BKz2:=aM (hbox);have GWz2:=aG hg HB;have GEz2:=aG hg HB;have NBz1:=aL hg BKz1;have NBz2:=aR hg BKz1;replace BKz1:=aB BKz1 hb;replace HB:=aS HB hb;clear hb hbox hg;have hnbz1:=NBz1.out;have hncz1:=NBz2.out;have hczz1:=cZ9 BKz1.out;have hczz10:=cZ9 BKz2.out)
 go_ret
 exact⟨rE,(hX HB.out)⟩
def XaS.f (l0:List Int):Option (Bool):=some (decide ((l0.length:Int) > 1048576))
theorem XaS.calls (A0:Option Addr) (c0:Nat) (l0:List Int) (r:Bool) (w:World) (h0:Rw (Kd.int .u8) w A0 c0 l0) (H:XaS.f l0=some r) :
  Calls Tryz.prog 8 #[.slice A0 l0.length c0] w fun e w'=>e = .returned (.bool r)∧Drawn0 w w':=by
 obtain⟨HR0,HC0⟩:=h0
 unfold XaS.f at H
 obtain rfl:=sI H
 go_enter Tryz.func8,Tryz.ntmps8
 go_wp2
 go_ret
 exact⟨by first | rfl | (simp;done) | (simp[*];done),dX⟩
def IsS146 (w0 W:World) (g:Nat) (f0:List Int) (f1:Int) (f2:Int):Prop:=∃ A0 c0,W.heap[g]? = some (.cells #[.slice A0 f0.length c0,.int .i64 f1,.int .i64 f2] 146 (0,0))∧w0.heap.size≤g∧Kd.C (Kd.int .u8) w0 A0 f0.length f0
theorem IsS146.grown {w0 W:World} {g:Nat} {f0:List Int} {f1:Int} {f2:Int} {W1:World} {row:Option Nat} (h:IsS146 w0 W g f0 f1 f2) (hw:W.grownBy W1 row) (hne:some g ≠ row):IsS146 w0 W1 g f0 f1 f2:=by
 obtain⟨A0,c0,hb,hg,hr0⟩:=h
 exact⟨A0,c0,blk_grown hb hw hne,hg,hr0⟩
theorem IsS146.own_neN {w0 W:World} {g:Nat} {f0:List Int} {f1:Int} {f2:Int} {α:Type} {d:Kd α} {e:Nat} {base:Nat} {ok:Nat→Prop} {v:Value} {xs:List α} (h:IsS146 w0 W g f0 f1 f2) (ho:Kd.N d e W base ok v xs) (ht:e ≠ 146):some g ≠ v.ownBlock:=by
 obtain⟨A0,c0,hb,hg,hr0⟩:=h
 exact Kd.N_ne ho hb ht
theorem IsS146.fresh {w0 W:World} {g:Nat} {f0:List Int} {f1:Int} {f2:Int} (h:IsS146 w0 W g f0 f1 f2):∀ k,W.heap.size≤k→k ≠ g:=by
 obtain⟨A0,c0,hb,hg,hr0⟩:=h
 exact Kd.freshB hb
theorem IsS146.kept {w0 W:World} {g:Nat} {f0:List Int} {f1:Int} {f2:Int} {W1:World} {S:Nat→Prop} (h:IsS146 w0 W g f0 f1 f2) (hk:Kept W W1 S) (hne:¬ S g):IsS146 w0 W1 g f0 f1 f2:=by
 obtain⟨A0,c0,hb,hg,hr0⟩:=h
 exact⟨A0,c0,blk_kept hb hk hne,hg,hr0⟩
theorem IsS146.below {w0 W:World} {g:Nat} {f0:List Int} {f1:Int} {f2:Int} {W1:World} (h:IsS146 w0 W g f0 f1 f2) (hw:Below W.heap.size W W1):IsS146 w0 W1 g f0 f1 f2:=h.grown (grown_of_below hw none) (by simp)
theorem IsS146.alloc {w0 W:World} {g:Nat} {f0:List Int} {f1:Int} {f2:Int} (h:IsS146 w0 W g f0 f1 f2) (o:Obj):IsS146 w0 (W.alloc o) g f0 f1 f2:=h.below (below_alloc (Below.refl _ _) o)
theorem IsS146.drewN {w0 W:World} {g:Nat} {f0:List Int} {f1:Int} {f2:Int} (h:IsS146 w0 W g f0 f1 f2) (m:Nat):IsS146 w0 (W.drewN m) g f0 f1 f2:=h
theorem IsS146.drew {w0 W:World} {g:Nat} {f0:List Int} {f1:Int} {f2:Int} (h:IsS146 w0 W g f0 f1 f2):IsS146 w0 W.drew g f0 f1 f2:=h
theorem IsS146.at_ {w0 W:World} {g:Nat} {f0:List Int} {f1:Int} {f2:Int} {w':World} {m:Nat} (hq:W.drewN m=w') (h:IsS146 w0 W g f0 f1 f2):IsS146 w0 w' g f0 f1 f2:=by subst hq;exact IsS146.drewN h m
theorem IsS146.apart {w0 W:World} {g:Nat} {f0:List Int} {f1:Int} {f2:Int} {α:Type} {d:Kd α} {e:Nat} {base:Nat} {ok:Nat→Prop} {v:Value} {xs:List α} (h:IsS146 w0 W g f0 f1 f2) (ho:d.R e W base ok v xs) (ht:∀ q,q ∈ e :: d.E→q ≠ 146):d.R e W base (fun k=>ok k∧k ≠ g) v xs:=by
 obtain⟨A0,c0,hb,hg,hr0⟩:=h
 exact Kd.R_types ho hb ht
theorem IsS146.own_ne {w0 W:World} {g:Nat} {f0:List Int} {f1:Int} {f2:Int} {α:Type} {d:Kd α} {e:Nat} {base:Nat} {ok:Nat→Prop} {v:Value} {xs:List α} (h:IsS146 w0 W g f0 f1 f2) (ho:d.R e W base ok v xs) (ht:e ≠ 146):some g ≠ v.ownBlock:=by
 obtain⟨A0,c0,hb,hg,hr0⟩:=h
 exact Kd.R_ne ho hb ht
theorem IsS146.apartS {w0 W:World} {g:Nat} {f0:List Int} {f1:Int} {f2:Int} {α:Type} {d:Kd α} {e:Nat} {base:Nat} {ok:Nat→Prop} {v:Value} {xs:List α} (h:IsS146 w0 W g f0 f1 f2) (ho:d.S e W base ok v xs) (ht:∀ q,q ∈ e :: d.E→q ≠ 146):d.S e W base (fun k=>ok k∧k ≠ g) v xs:=by
 obtain⟨A0,c0,hb,hg,hr0⟩:=h
 exact Kd.S_types ho hb ht
theorem IsS146.own_neS {w0 W:World} {g:Nat} {f0:List Int} {f1:Int} {f2:Int} {α:Type} {d:Kd α} {e:Nat} {base:Nat} {ok:Nat→Prop} {v:Value} {xs:List α} (h:IsS146 w0 W g f0 f1 f2) (ho:d.S e W base ok v xs) (ht:e ≠ 146):some g ≠ v.ownBlock:=by
 obtain⟨A0,c0,hb,hg,hr0⟩:=h
 exact Kd.S_ne ho hb ht
theorem IsS146.lt {w0 W:World} {g:Nat} {f0:List Int} {f1:Int} {f2:Int} (h:IsS146 w0 W g f0 f1 f2):g<W.heap.size:=by
 obtain⟨A0,c0,hb,hg,hr0⟩:=h
 exact blk_lt hb
theorem IsS146.ge {w0 W:World} {g:Nat} {f0:List Int} {f1:Int} {f2:Int} (h:IsS146 w0 W g f0 f1 f2):w0.heap.size≤g:=by
 obtain⟨A0,c0,hb,hg,hr0⟩:=h
 exact hg
theorem IsS146.ne_blk {w0 W:World} {g:Nat} {f0:List Int} {f1:Int} {f2:Int} {a:Nat} {cs:Array Value} {t:TypeId} {fr:Nat × Nat} (h:IsS146 w0 W g f0 f1 f2) (hb2:W.heap[a]? = some (.cells cs t fr)) (ht:t ≠ 146):g ≠ a:=by
 obtain⟨A0,c0,hb,hg,hr0⟩:=h
 rintro rfl
 rw[hb] at hb2
 injection hb2 with hb2
 injection hb2 with _ ht2
 exact ht ht2.symm
theorem IsS146.far {w0 W:World} {g:Nat} {f0:List Int} {f1:Int} {f2:Int} {p:Addr} (h:IsS146 w0 W g f0 f1 f2) (hne:g ≠ p.block) (u:Value):IsS146 w0 (W.setCell p u) g f0 f1 f2:=by
 obtain⟨A0,c0,hb,hg,hr0⟩:=h
 exact⟨A0,c0,blk_far hb hne u,hg,hr0⟩
theorem cellS146_0 {W:World} {g:Nat} {A0:Option Addr} {c0:Nat} {f0:List Int} {f1:Int} {f2:Int} (h:W.heap[g]? = some (.cells #[.slice A0 f0.length c0,.int .i64 f1,.int .i64 f2] 146 (0,0))):W.cell? ⟨g,0,none⟩=some (.slice A0 f0.length c0):=(blk_cell h 0).trans rfl
theorem cellS146_1 {W:World} {g:Nat} {A0:Option Addr} {c0:Nat} {f0:List Int} {f1:Int} {f2:Int} (h:W.heap[g]? = some (.cells #[.slice A0 f0.length c0,.int .i64 f1,.int .i64 f2] 146 (0,0))):W.cell? ⟨g,1,none⟩=some (.int .i64 f1):=(blk_cell h 1).trans rfl
theorem IsS146.set_1 {w0 W:World} {g:Nat} {f0:List Int} {f1:Int} {f2:Int} (h:IsS146 w0 W g f0 f1 f2) (x:Int):IsS146 w0 (W.setCell ⟨g,1,none⟩ (.int .i64 x)) g f0 x f2:=by
 obtain⟨A0,c0,hb,hg,hr0⟩:=h
 exact⟨A0,c0,by simpa using blk_set hb 1 (.int .i64 x),hg,hr0⟩
theorem cellS146_2 {W:World} {g:Nat} {A0:Option Addr} {c0:Nat} {f0:List Int} {f1:Int} {f2:Int} (h:W.heap[g]? = some (.cells #[.slice A0 f0.length c0,.int .i64 f1,.int .i64 f2] 146 (0,0))):W.cell? ⟨g,2,none⟩=some (.int .i64 f2):=(blk_cell h 2).trans rfl
theorem IsS146.set_2 {w0 W:World} {g:Nat} {f0:List Int} {f1:Int} {f2:Int} (h:IsS146 w0 W g f0 f1 f2) (x:Int):IsS146 w0 (W.setCell ⟨g,2,none⟩ (.int .i64 x)) g f0 f1 x:=by
 obtain⟨A0,c0,hb,hg,hr0⟩:=h
 exact⟨A0,c0,by simpa using blk_set hb 2 (.int .i64 x),hg,hr0⟩
def X8.l0:Nat→List Int→Int→Int→Option (List Int × Int × Int)
 | 0,_,_,_=>none
 | k+1,x0,x3,x4=>if x4<(x0.length:Int) then (if x4<4000 then (if 0≤x4 then (X8.l0 k x0 (Go.bits .and .i64 (wrap64 ((wrap64 ((wrap64 (x3 * 131))+(wrap64 (rd x0 x4))))+7)) 1073741823) (wrap64 (x4+1))) else (none)) else (some (x0,0,x3))) else (some (x0,0,x3))
def X8.f (k:Nat) (l0:List Int):Option (List Int × Int × Int):=X8.l0 k l0 (wrap64 (27323+(l0.length:Int))) 0
theorem X8.calls (k:Nat) (A0:Option Addr) (c0:Nat) (l0:List Int) (r1:List Int) (r2:Int) (r3:Int) (w0 w:World) (hB:Below w0.heap.size w0 w) (hr0:Kd.C (Kd.int .u8) w0 A0 l0.length l0) (hc0:l0.length≤c0) (H:X8.f k l0=some (r1,r2,r3)) :
  Calls Tryz.prog 73 #[.slice A0 l0.length c0] w fun e w'=>∃ g_:Nat,e = .returned (.pointer (some ⟨g_,0,none⟩))∧IsS146 w0 w' g_ r1 r2 r3∧Below w0.heap.size w0 w'∧Below w.heap.size w w':=by
 have hu146:=Tryz.underlying146
 have HR0:=aM hr0
 have HC0:=aM hc0
 clear hr0 hc0
 have HBW:=aM (Below.refl w.heap.size w)
 have HW0:=aM hB.size
 have HB:=aM hB
 clear hB
 unfold X8.f at H
 have H':=aM H
 clear H
 go_enter Tryz.func73,Tryz.ntmps73
 go_wp2
 go_loopg [3,4] k (fun kq v3 v4 w'=>∃ (x3_1:Int) (x4_1:Int),v3 = .int .i64 x3_1∧v4 = .int .i64 x4_1∧Aside0 (X8.l0 kq l0 x3_1 x4_1=some (r1,r2,r3))∧Aside0 (kq≤k)∧Aside0 (Below w0.heap.size w0 w')∧Aside0 (Below w.heap.size w w'))
 case atStart=>exact⟨(wrap64 (27323+(l0.length:Int))),(0),rS,rS,H',⟨Nat.le_refl _⟩,⟨(hX HB.out)⟩,⟨(hX HBW.out)⟩⟩
 case round =>
  clear H'
  obtain⟨x3_1,x4_1,rfl,rfl,HA,HKy1,HB,HBW⟩:=hrel
  cases gk with
  | zero=>exact absurd HA.out (by simp[X8.l0])
  | succ k1 =>
   have H:=HA.out
   clear HA
   simp only[X8.l0] at H
   revert H;refine iN ?_ ?_<;>intro c2b0 H
   ·simp only[Option.some.injEq,Prod.mk.injEq] at H
    obtain⟨rfl,rfl,rfl⟩:=H
    go_wp2_with (refine boxE 31 #[.slice A0 l0.length c0,.int .i64 0,.int .i64 x3_1] 146 ?_;intro gbx1 hg wx1 hbox hb;have BKx1:=aM (hbox);have GWx1:=aM (gX' hg (hX HBW.out));have GEx1:=aM ((Nat.le_trans HW0.out (by rw[hg];exact(below_size (hX HBW.out)):w.heap.size≤gbx1):w0.heap.size≤gbx1));replace HBW:=aM (below_step HBW.out hb);replace HB:=aS HB hb;clear hb hbox hg)
    go_ret
    exact⟨_,rfl,(show IsS146 w0 _ gbx1 l0 0 x3_1 from ⟨_,_,(bX BKx1.out),GEx1.out,HR0.out⟩),(hX HB.out),(hX HBW.out)⟩
   revert H;refine iN ?_ ?_<;>intro c3b0 H
   ·simp only[Option.some.injEq,Prod.mk.injEq] at H
    obtain⟨rfl,rfl,rfl⟩:=H
    go_wp2_with (refine boxE 31 #[.slice A0 l0.length c0,.int .i64 0,.int .i64 x3_1] 146 ?_;intro gbx1 hg wx1 hbox hb;have BKx1:=aM (hbox);have GWx1:=aM (gX' hg (hX HBW.out));have GEx1:=aM ((Nat.le_trans HW0.out (by rw[hg];exact(below_size (hX HBW.out)):w.heap.size≤gbx1):w0.heap.size≤gbx1));replace HBW:=aM (below_step HBW.out hb);replace HB:=aS HB hb;clear hb hbox hg)
    go_ret
    exact⟨_,rfl,(show IsS146 w0 _ gbx1 l0 0 x3_1 from ⟨_,_,(bX BKx1.out),GEx1.out,HR0.out⟩),(hX HB.out),(hX HBW.out)⟩
   replace H:=ifQ H;obtain⟨c4b0,H⟩:=H
   have H':=aM H
   clear H
   have px1:0≤(x4_1:Int):=odA
   have qx1:x4_1<(l0.length:Int):=odA
   obtain⟨adx1,ex1,hxx1⟩:=Kd.at_int HR0.out x4_1 px1 qx1
   cases ex1
   replace hxx1:=pw_cell_below HB.out hxx1
   replace px1:=eq_true px1
   replace qx1:=eq_true qx1
   go_wp2
   go_roundg k1
   case measure=>have:=HKy1.out;omega
   case rel=>exact⟨(Go.bits .and .i64 (wrap64 ((wrap64 ((wrap64 (x3_1 * 131))+(wrap64 (rd l0 x4_1))))+7)) 1073741823),(wrap64 (x4_1+1)),rS,rS,H',⟨by have:=HKy1.out;omega⟩,⟨(hX HB.out)⟩,⟨(hX HBW.out)⟩⟩
def XaM.f  : Option (List Int × Int):=if 4≤35184372088832 then (some ((List.replicate 4 0),0)) else (none)
theorem XaM.calls  (r1:List Int) (r2:Int) (w:World) (h:XaM.f  = some (r1,r2)) :
  Calls Tryz.prog 193 #[] w fun e w'=>∃ v0_:Value,e = .returned (.agg #[v0_,.int .i64 r2])∧Kd.R (Kd.int .i64) 3 w' w.heap.size (fun _=>True) v0_ r1∧Below w.heap.size w w':=by
 have hu26:=Tryz.underlying26
 have HB:=aM (Below.refl w.heap.size w)
 have H:=h
 unfold XaM.f at H
 clear h
 replace H:=ifP H;obtain⟨c1,H⟩:=H
 have c1b0:=eq_true c1
 have c1b1:=decide_eq_true c1
 clear c1
 obtain⟨y102,hy102⟩:∃ y_:List Int,y_=(List.replicate 4 0):=⟨_,rfl⟩
 replace H:(some (y102,0))=some (r1,r2):=yH H hy102
 have Ny102:=aM hy102
 clear hy102
 simp only[Option.some.injEq,Prod.mk.injEq] at H
 obtain⟨rfl,rfl⟩:=H
 go_enter Tryz.func193,Tryz.ntmps193
 go_wp2_with (first | (refine boxE 0 #[.slice none 0 0,.int .i64 0] 26 ?_;intro gbz1 hg wz1 hbox hb;have BKz1:=aM (hbox);have GWz1:=aG hg HB;replace HB:=aS HB hb;clear hb hbox hg) | ((with_reducible refine gate_dst (N:=1) rfl ?_);refine Kd.R_make (Kd.int .i64) _ 3 rfl (N:=1) rfl 24 _ _ rfl 4 rfl rfl Tryz.underlying24 (.int .i64 0) 8 info3 rfl (by decide) (by omega) 0 (ok:=fun _=>True) (okp:=fun _=>True) rfl (fun _ hk=>hk) trivial (by omega) (by omega) (Below.refl _ _) (Nat.le_refl _) ?_;intro vz1 wz2 hoz1 hb hg_ hnew_;clear hg_ hnew_;(first | rw[← Ny102.out] at hoz1 | (simp only[Int.reduceToNat] at hoz1;rw[← Ny102.out] at hoz1));have HOz1:=aM (Kd.R_lower hoz1 (below_size (hX HB.out)));replace BKz1:=aB BKz1 hb;replace HB:=aS HB hb;clear hb hoz1;obtain⟨Aoz1,coz1,eoz1⟩:=Kd.R_slice HOz1.out;subst eoz1;have hczz1:=cZ2 BKz1.out))
 refine bodyPost_ret (results_cell_row rfl _ _ gbz1 26 #[.slice Aoz1 y102.length coz1,.int .i64 0] (0,0) _ rfl (bP BKz1.out) Tryz.underlying26 rfl (by kernel_rfl)) rfl ?_
 exact⟨_,rE,(Kd.R_mono (rF HOz1.out BKz1.out) (fun _ hk=>trivial)),(hX HB.out)⟩
end Go.Proofs.YthejoblnfpaojaaGreat.P
