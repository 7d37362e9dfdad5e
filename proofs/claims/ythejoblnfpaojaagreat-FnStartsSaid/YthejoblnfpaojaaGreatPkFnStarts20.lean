/- A part of the proof of the law FnStarts: texts of this seat, merged (words, printed functions of the program, plain lemmas). Conditions: none of its own. -/
import Derived.Test.YthejoblnfpaojaaGreatPkFnStarts15
set_option linter.unusedSimpArgs false
set_option linter.unusedVariables false
set_option maxHeartbeats 8000000
set_option maxRecDepth 100000
namespace Go.Proofs.YthejoblnfpaojaaGreat.P
open Go.Proofs.YthejoblnfpaojaaGreatZ Go.RowKit Go.Proofs.YthejoblnfpaojaaGreatW.PrintWords Go.Proofs.YthejoblnfpaojaaGreatW.PrintLast Go.Proofs.YthejoblnfpaojaaGreatW.PrintMore
attribute [local go_sem] max2_int min2_int max_two min_two max_three min_three max_four min_four   -- for this text's walks alone
attribute [local go_sem high] eqA51
mutual
def Xi.l0:Nat→Int→List (S51)→List (S58)→List (S51)→List (S58)→Option (Bool)
 | 0,_,_,_,_,_=>none
 | k+1,x5,x102000,x102001,x103000,x103001=>if x5<(x102000.length:Int) then (if 0≤x5 then (if x5<(x103000.length:Int) then (if (!(((rd_T51 x102000 x5).f0) == ((rd_T51 x103000 x5).f0)) || (!(((rd_T51 x102000 x5).f1) == ((rd_T51 x103000 x5).f1)) || (!(((rd_T51 x102000 x5).f2) == ((rd_T51 x103000 x5).f2)))))=true then (none) else (Xi.l0 k (wrap64 (x5+1)) x102000 x102001 x103000 x103001)) else (none)) else (none)) else (Xi.l1 k 0 x102000 x102001 x103000 x103001)
def Xi.l1:Nat→Int→List (S51)→List (S58)→List (S51)→List (S58)→Option (Bool)
 | 0,_,_,_,_,_=>none
 | k+1,x6,x102000,x102001,x103000,x103001=>if x6<(x102001.length:Int) then (if 0≤x6 then (if x6<(x103001.length:Int) then (if ((rd_T58 x102001 x6).f0)=((rd_T58 x103001 x6).f0) then (if ((rd_T58 x102001 x6).f1)=((rd_T58 x103001 x6).f1) then ((XV.f k ((rd_T58 x102001 x6).f2) ((rd_T58 x103001 x6).f2)).bind fun t109=>(if t109=true then ((XaE.f k ((rd_T58 x102001 x6).f3.f0) ((rd_T58 x102001 x6).f3.f1) ((rd_T58 x103001 x6).f3.f0) ((rd_T58 x103001 x6).f3.f1)).bind fun t110=>(if t110=true then (Xi.l1 k (wrap64 (x6+1)) x102000 x102001 x103000 x103001) else (none))) else (none))) else (none)) else (none)) else (none)) else (none)) else (some true)
end
def Xi.f (k:Nat) (l0_0:List (S51)) (l0_1:List (S58)) (l1_0:List (S51)) (l1_1:List (S58)):Option (Bool):=if (l0_0.length:Int)=(l1_0.length:Int) then (if (l0_1.length:Int)=(l1_1.length:Int) then (Xi.l0 k 0 l0_0 l0_1 l1_0 l1_1) else (none)) else (none)
def Xi.T6:Bool × List (List Nat × List Nat):=(true,[([],[]),([0],[0]),([],[]),([1,2],[1,2]),([3],[3]),([],[]),([5],[5]),([],[]),([6,7],[6,7]),([8],[8]),([4,9],[4,9])])
def Xi.B6:List Nat:=[0,1,0,7,15,0,32,0,224,480,1023]
theorem Xi.tab6:rtab .any (opsOf Tryz.f83 6)=Xi.T6:=by kernel_rfl
theorem Xi.bits6:waitsOk Xi.T6.2 Xi.B6=true:=by kernel_rfl
def Xi.T11:Bool × List (List Nat × List Nat):=(true,[([],[]),([0],[0]),([],[]),([1,2],[1,2]),([3],[3]),([],[]),([5],[5]),([],[]),([6,7],[6,7]),([8],[8]),([],[]),([],[]),([10,4,0,1,2,3,4,10,11],[4,10]),([11,9,12,0,1,2,3,4,5,6,7,8,9,10,11,12],[9,11])])
def Xi.B11:List Nat:=[0,1,0,7,15,0,32,0,224,480,0,0,3103,8191]
theorem Xi.tab11:rtab .any (opsOf Tryz.f83 11)=Xi.T11:=by kernel_rfl
theorem Xi.bits11:waitsOk Xi.T11.2 Xi.B11=true:=by kernel_rfl
theorem Xi.calls (k:Nat) (A0_0:Option Addr) (c0_0:Nat) (l0_0:List (S51)) (A0_1:Option Addr) (c0_1:Nat) (l0_1:List (S58)) (A1_0:Option Addr) (c1_0:Nat) (l1_0:List (S51)) (A1_1:Option Addr) (c1_1:Nat) (l1_1:List (S58)) (r:Bool) (w:World) (h0_0:Rw k51 w A0_0 c0_0 l0_0) (h0_1:Rw k58 w A0_1 c0_1 l0_1) (h1_0:Rw k51 w A1_0 c1_0 l1_0) (h1_1:Rw k58 w A1_1 c1_1 l1_1) (H:Xi.f k l0_0 l0_1 l1_0 l1_1=some r) :
  Calls Tryz.prog 83 #[.agg #[.slice A0_0 l0_0.length c0_0,.slice A0_1 l0_1.length c0_1],.agg #[.slice A1_0 l1_0.length c1_0,.slice A1_1 l1_1.length c1_1]] w fun e w'=>e = .returned (.bool r)∧Below w.heap.size w w':=by
 have hu33:=Tryz.underlying33
 have hu51:=Tryz.underlying51
 have hu58:=Tryz.underlying58
 have hu56:=Tryz.underlying56
 obtain⟨HR0_0,HC0_0⟩:=h0_0
 obtain⟨HR0_1,HC0_1⟩:=h0_1
 obtain⟨HR1_0,HC1_0⟩:=h1_0
 obtain⟨HR1_1,HC1_1⟩:=h1_1
 have HB:=aM (Below.refl w.heap.size w)
 unfold Xi.f at H
 replace H:=ifP H;obtain⟨c3,H⟩:=H
 obtain⟨c3b0,c3b1⟩:=eqT c3
 have c3b2:(l0_0.length == l1_0.length)=true:=by first | simpa using c3 | (simp at c3 ⊢;omega)
 clear c3
 replace H:=ifP H;obtain⟨c4,H⟩:=H
 obtain⟨c4b0,c4b1⟩:=eqT c4
 have c4b2:(l0_1.length == l1_1.length)=true:=by first | simpa using c4 | (simp at c4 ⊢;omega)
 clear c4
 have H':=aM H
 clear H
 go_enter Tryz.func83,Tryz.ntmps83
 go_wp2_with (first | ((with_reducible refine gate_dst (N:=2) rfl ?_);(try (refine gate_guard (by rfl) ?_;dsimp only));refine boxF 2 #[.slice A0_0 l0_0.length c0_0,.slice A0_1 l0_1.length c0_1] 33 ?_;intro gbz1 hg wz1 hbox hb;have BKz1:=aM (hbox);have GWz1:=aG hg HB;replace HB:=aS HB hb;clear hb hbox hg) | ((with_reducible refine gate_dst (N:=3) rfl ?_);(try (refine gate_guard (by rfl) ?_;dsimp only));refine boxF 3 #[.slice A1_0 l1_0.length c1_0,.slice A1_1 l1_1.length c1_1] 33 ?_;intro gbz2 hg wz2 hbox hb;have BKz2:=aM (hbox);have GWz2:=aG hg HB;have NBz1:=aL hg BKz1;have NBz2:=aR hg BKz1;replace BKz1:=aB BKz1 hb;replace HB:=aS HB hb;clear hb hbox hg;have hnbz1:=nB NBz1 NBz2;have hczz1:=cZ2 BKz1.out;have hczz3:=cZ2 BKz2.out))
 go_loopg [5] k (fun kq v5 w'=>∃ (x5_1:Int),v5 = .int .i64 x5_1∧Aside0 (Xi.l0 kq x5_1 l0_0 l0_1 l1_0 l1_1=some r)∧Aside0 (kq≤k)∧Aside0 (w'.heap[gbz1]? = some (.cells #[(.slice A0_0 l0_0.length c0_0),(.slice A0_1 l0_1.length c0_1)] 33 (0,0)))∧Aside0 (w'.heap[gbz2]? = some (.cells #[(.slice A1_0 l1_0.length c1_0),(.slice A1_1 l1_1.length c1_1)] 33 (0,0)))∧Aside0 (Below w.heap.size w w'))
 case atStart=>exact⟨(0),rS,H',⟨Nat.le_refl _⟩,⟨(bX BKz1.out)⟩,⟨(bX BKz2.out)⟩,⟨(hX HB.out)⟩⟩
 case round =>
  clear H'
  try clear c3
  try clear c3b0
  try clear c3b1
  try clear c3b2
  try clear c4
  try clear c4b0
  try clear c4b1
  try clear c4b2
  try clear hczz1
  try clear hczz3
  obtain⟨x5_1,rfl,HA,HKy1,BKz1,BKz2,HB⟩:=hrel
  cases gk with
  | zero=>exact absurd HA.out (by simp[Xi.l0])
  | succ k1 =>
   have H:=HA.out
   clear HA
   simp only[Xi.l0] at H
   revert H;refine iP ?_ ?_<;>intro c10b0 H
   ·replace H:=ifP H;obtain⟨c11,H⟩:=H
    have c11b0:=decide_eq_true c11
    clear c11
    replace H:=ifQ H;obtain⟨c12b0,H⟩:=H
    replace H:=ifN H;obtain⟨c13,H⟩:=H
    have c13b0:(!(((rd_T51 l0_0 x5_1).f0) == ((rd_T51 l1_0 x5_1).f0)) || (!(((rd_T51 l0_0 x5_1).f1) == ((rd_T51 l1_0 x5_1).f1)) || (!(((rd_T51 l0_0 x5_1).f2) == ((rd_T51 l1_0 x5_1).f2)))))=false:=by simpa using c13
    clear c13
    have H':=aM H
    clear H
    have hnbx1:=NBz1.out
    have hncx1:=NBz2.out
    have hczx1:=cZ2 BKz1.out
    try go_wp2
    obtain⟨adx1,ex1,px1,qx1,hxx1⟩:=at_T51c HR0_0 HB x5_1
    cases ex1
    obtain⟨adx2,ex2,px2,qx2,hxx4⟩:=at_T51c HR1_0 HB x5_1
    cases ex2
    have hcb0_:=cV2 BKz1.out
    have hcb1_:=cV2 BKz2.out
    refine sR0 11 Xi.tab6 Xi.bits6 (fun HT_ HW_ hHeld => ?_)
    refine zA 0 ?_
    refine zA 2 ?_
    refine zA 5 ?_
    refine zA 7 ?_
    refine tA 1 ?_
    refine zA 3 ?_
    refine tA 4 ?_
    refine tA 6 ?_
    refine zA 8 ?_
    refine tA 9 ?_
    refine zA 10 ?_
    refine dA ?_
    try go_wp2
    go_roundg k1
    case measure=>have:=HKy1.out;omega
    case rel=>exact⟨(wrap64 (x5_1+1)),rS,H',⟨by have:=HKy1.out;omega⟩,⟨(bX BKz1.out)⟩,⟨(bX BKz2.out)⟩,⟨(hX HB.out)⟩⟩
   have H':=aM H
   clear H
   have hnbx1:=NBz1.out
   have hncx1:=NBz2.out
   have hczx1:=cZ2 BKz1.out
   go_wp2
   go_loopg [6] k1 (fun kq v6 w'=>∃ (x6_2:Int),v6 = .int .i64 x6_2∧Aside0 (Xi.l1 kq x6_2 l0_0 l0_1 l1_0 l1_1=some r)∧Aside0 (kq≤k1)∧Aside0 (w'.heap[gbz1]? = some (.cells #[(.slice A0_0 l0_0.length c0_0),(.slice A0_1 l0_1.length c0_1)] 33 (0,0)))∧Aside0 (w'.heap[gbz2]? = some (.cells #[(.slice A1_0 l1_0.length c1_0),(.slice A1_1 l1_1.length c1_1)] 33 (0,0)))∧Aside0 (Below w.heap.size w w'))
   case atStart=>exact⟨(0),rS,H',⟨Nat.le_refl _⟩,⟨(bX BKz1.out)⟩,⟨(bX BKz2.out)⟩,⟨(hX HB.out)⟩⟩
   case round =>
    clear H'
    try clear c3
    try clear c3b0
    try clear c3b1
    try clear c3b2
    try clear c4
    try clear c4b0
    try clear c4b1
    try clear c4b2
    try clear c10b0
    try clear hczx1
    try clear hczz1
    try clear hczz3
    obtain⟨x6_2,rfl,HA,HKw1,BKz1,BKz2,HB⟩:=hrel
    cases gk with
    | zero=>exact absurd HA.out (by simp[Xi.l1])
    | succ k2 =>
     have H:=HA.out
     clear HA
     simp only[Xi.l1] at H
     revert H;refine iN ?_ ?_<;>intro c19b0 H
     ·obtain rfl:=sI H
      have hnbv1:=NBz1.out
      have hncv1:=NBz2.out
      have hczv1:=cZ2 BKz1.out
      exact fS
     replace H:=ifQ H;obtain⟨c20b0,H⟩:=H
     replace H:=ifQ H;obtain⟨c21b0,H⟩:=H
     replace H:=ifP H;obtain⟨c22,H⟩:=H
     obtain⟨c22b0,c22b1⟩:=eqT c22
     clear c22
     replace H:=ifP H;obtain⟨c23,H⟩:=H
     obtain⟨c23b0,c23b1⟩:=eqT c23
     clear c23
     replace H:=bE H;obtain⟨t109,A24,H⟩:=H
     cases t109
     case false =>
      rw[if_neg nft] at H
      exact absurd H (by simp)
     rw[if_pos rfl] at H
     replace H:=bE H;obtain⟨t110,A26,H⟩:=H
     cases t110
     case false =>
      rw[if_neg nft] at H
      exact absurd H (by simp)
     rw[if_pos rfl] at H
     have H':=aM H
     clear H
     have hnbv1:=NBz1.out
     have hncv1:=NBz2.out
     have hczv1:=cZ2 BKz1.out
     try go_wp2
     replace BKz1:=aM (blk_drew BKz1.out)
     replace BKz2:=aM (blk_drew BKz2.out)
     replace HB:=aM (below_drew1 HB.out)
     have pv1:0≤(x6_2:Int):=odA
     have qv1:x6_2<(l0_1.length:Int):=odA
     obtain⟨adv1,Av1,cv1,Av2,cv2,ev1,hxv1,hxv2,hxv3,hxv4,hxv5,hlv1,hiv1,hlv2,hiv2⟩:=at_T58 HR0_1.out x6_2 pv1 qv1
     have hwv1:=hxv5
     have hwv2:=hxv4
     have hwv3:=hxv3
     have hwv4:=hxv2
     have hwv5:=hxv1
     cases ev1
     replace hxv1:=bc HB.out hxv1
     replace hxv2:=bc HB.out hxv2
     replace hxv3:=bc HB.out hxv3
     replace hxv4:=bc HB.out hxv4
     replace hxv5:=bc HB.out hxv5
     have HRv1:=aM hiv1
     have HCv1:=aM hlv1
     clear hiv1 hlv1
     have HRv2:=aM hiv2
     have HCv2:=aM hlv2
     clear hiv2 hlv2
     replace pv1:=eq_true pv1
     replace qv1:=eq_true qv1
     have pv2:0≤(x6_2:Int):=odA
     have qv2:x6_2<(l1_1.length:Int):=odA
     obtain⟨adv2,Av3,cv3,Av4,cv4,ev2,hxv6,hxv7,hxv8,hxv9,hxv10,hlv3,hiv3,hlv4,hiv4⟩:=at_T58 HR1_1.out x6_2 pv2 qv2
     have hwv6:=hxv10
     have hwv7:=hxv9
     have hwv8:=hxv8
     have hwv9:=hxv7
     have hwv10:=hxv6
     cases ev2
     replace hxv6:=bc HB.out hxv6
     replace hxv7:=bc HB.out hxv7
     replace hxv8:=bc HB.out hxv8
     replace hxv9:=bc HB.out hxv9
     replace hxv10:=bc HB.out hxv10
     have HRv3:=aM hiv3
     have HCv3:=aM hlv3
     clear hiv3 hlv3
     have HRv4:=aM hiv4
     have HCv4:=aM hlv4
     clear hiv4 hlv4
     replace pv2:=eq_true pv2
     replace qv2:=eq_true qv2
     refine start_ (n:=14) (S:=fun w'=>w'.cell? ⟨gbz1,0,none⟩=some (.slice A0_0 l0_0.length c0_0)∧w'.cell? ⟨gbz1,1,none⟩=some (.slice (some adv1) l0_1.length c0_1)∧w'.cell? ⟨gbz2,0,none⟩=some (.slice A1_0 l1_0.length c1_0)∧w'.cell? ⟨gbz2,1,none⟩=some (.slice (some adv2) l1_1.length c1_1)∧w'.cell? (adv1.add ((x6_2).toNat * 5))=some (.int .i64 ((rd_T58 l0_1 x6_2).f0))∧w'.cell? ⟨(adv1.add ((x6_2).toNat * 5)).block,(adv1.add ((x6_2).toNat * 5)).off+1,none⟩=some (.int .i64 ((rd_T58 l0_1 x6_2).f1))∧w'.cell? ⟨(adv1.add ((x6_2).toNat * 5)).block,(adv1.add ((x6_2).toNat * 5)).off+2,none⟩=some (.slice Av1 ((rd_T58 l0_1 x6_2).f2).length cv1)∧w'.cell? ⟨(adv1.add ((x6_2).toNat * 5)).block,(adv1.add ((x6_2).toNat * 5)).off+3,none⟩=some (.int .i64 ((rd_T58 l0_1 x6_2).f3.f0))∧w'.cell? ⟨(adv1.add ((x6_2).toNat * 5)).block,(adv1.add ((x6_2).toNat * 5)).off+4,none⟩=some (.slice Av2 ((rd_T58 l0_1 x6_2).f3.f1).length cv2)∧w'.cell? (adv2.add ((x6_2).toNat * 5))=some (.int .i64 ((rd_T58 l1_1 x6_2).f0))∧w'.cell? ⟨(adv2.add ((x6_2).toNat * 5)).block,(adv2.add ((x6_2).toNat * 5)).off+1,none⟩=some (.int .i64 ((rd_T58 l1_1 x6_2).f1))∧w'.cell? ⟨(adv2.add ((x6_2).toNat * 5)).block,(adv2.add ((x6_2).toNat * 5)).off+2,none⟩=some (.slice Av3 ((rd_T58 l1_1 x6_2).f2).length cv3)∧w'.cell? ⟨(adv2.add ((x6_2).toNat * 5)).block,(adv2.add ((x6_2).toNat * 5)).off+3,none⟩=some (.int .i64 ((rd_T58 l1_1 x6_2).f3.f0))∧w'.cell? ⟨(adv2.add ((x6_2).toNat * 5)).block,(adv2.add ((x6_2).toNat * 5)).off+4,none⟩=some (.slice Av4 ((rd_T58 l1_1 x6_2).f3.f1).length cv4)) (ds:=[]) (bm 14 0) (by kernel_rfl) rfl (by kernel_rfl) ⟨cK BKz1.out 0,cK BKz1.out 1,cK BKz2.out 0,cK BKz2.out 1,(bc HB.out hwv5 :),(bc HB.out hwv4 :),(bc HB.out hwv3 :),(bc HB.out hwv2 :),(bc HB.out hwv1 :),(bc HB.out hwv10 :),(bc HB.out hwv9 :),(bc HB.out hwv8 :),(bc HB.out hwv7 :),(bc HB.out hwv6 :)⟩ (fun hHeld => ?_);refine with_tabW Xi.tab11 Xi.bits11 (fun HT_ HW_ => ?_)
     generalize wr.drew=wv1 at BKz1 BKz2 HB HRv1 HRv2 HRv3 HRv4 hxv1 hxv2 hxv3 hxv4 hxv5 hxv6 hxv7 hxv8 hxv9 hxv10 hHeld ⊢
     refine pZ 0 50 (bm 14 1) HT_.out ?_
     refine pZ 2 52 (bm 14 5) HT_.out ?_
     refine pZ 5 55 (bm 14 37) HT_.out ?_
     refine pZ 7 57 (bm 14 165) HT_.out ?_
     refine tZ 1 51 (bm 14 167) HT_.out HW_.out hHeld ?_
     refine pZ 3 53 (bm 14 175) HT_.out ?_
     refine tZ 4 54 (bm 14 191) HT_.out HW_.out hHeld ?_
     refine tZ 6 56 (bm 14 255) HT_.out HW_.out hHeld ?_
     refine pZ 8 58 (bm 14 511) HT_.out ?_
     refine tZ 9 59 (bm 14 1023) HT_.out HW_.out hHeld ?_
     refine join_ (σ:=Nat × Nat) 2 #[true,true,true,true,true,true,true,true,true,true,true,true,false,false] (fun s_=>[(7,.pointer (some ⟨s_.1,0,none⟩)),(8,.pointer (some ⟨s_.2,0,none⟩))]) (fun s_ w'=>(w'.cell? ⟨gbz1,0,none⟩=some (.slice A0_0 l0_0.length c0_0)∧w'.cell? ⟨gbz1,1,none⟩=some (.slice (some adv1) l0_1.length c0_1)∧w'.cell? ⟨gbz2,0,none⟩=some (.slice A1_0 l1_0.length c1_0)∧w'.cell? ⟨gbz2,1,none⟩=some (.slice (some adv2) l1_1.length c1_1)∧w'.cell? (adv1.add ((x6_2).toNat * 5))=some (.int .i64 ((rd_T58 l0_1 x6_2).f0))∧w'.cell? ⟨(adv1.add ((x6_2).toNat * 5)).block,(adv1.add ((x6_2).toNat * 5)).off+1,none⟩=some (.int .i64 ((rd_T58 l0_1 x6_2).f1))∧w'.cell? ⟨(adv1.add ((x6_2).toNat * 5)).block,(adv1.add ((x6_2).toNat * 5)).off+2,none⟩=some (.slice Av1 ((rd_T58 l0_1 x6_2).f2).length cv1)∧w'.cell? ⟨(adv1.add ((x6_2).toNat * 5)).block,(adv1.add ((x6_2).toNat * 5)).off+3,none⟩=some (.int .i64 ((rd_T58 l0_1 x6_2).f3.f0))∧w'.cell? ⟨(adv1.add ((x6_2).toNat * 5)).block,(adv1.add ((x6_2).toNat * 5)).off+4,none⟩=some (.slice Av2 ((rd_T58 l0_1 x6_2).f3.f1).length cv2)∧w'.cell? (adv2.add ((x6_2).toNat * 5))=some (.int .i64 ((rd_T58 l1_1 x6_2).f0))∧w'.cell? ⟨(adv2.add ((x6_2).toNat * 5)).block,(adv2.add ((x6_2).toNat * 5)).off+1,none⟩=some (.int .i64 ((rd_T58 l1_1 x6_2).f1))∧w'.cell? ⟨(adv2.add ((x6_2).toNat * 5)).block,(adv2.add ((x6_2).toNat * 5)).off+2,none⟩=some (.slice Av3 ((rd_T58 l1_1 x6_2).f2).length cv3)∧w'.cell? ⟨(adv2.add ((x6_2).toNat * 5)).block,(adv2.add ((x6_2).toNat * 5)).off+3,none⟩=some (.int .i64 ((rd_T58 l1_1 x6_2).f3.f0))∧w'.cell? ⟨(adv2.add ((x6_2).toNat * 5)).block,(adv2.add ((x6_2).toNat * 5)).off+4,none⟩=some (.slice Av4 ((rd_T58 l1_1 x6_2).f3.f1).length cv4))∧(w'.heap[gbz1]? = some (.cells #[.slice A0_0 l0_0.length c0_0,.slice (some adv1) l0_1.length c0_1] 33 (0,0)))∧(w'.heap[gbz2]? = some (.cells #[.slice A1_0 l1_0.length c1_0,.slice (some adv2) l1_1.length c1_1] 33 (0,0)))∧(w'.heap[s_.1]? = some (.cells #[.int .i64 0,.int .i64 0,.slice none 0 0,.int .i64 0,.slice none 0 0] 58 (0,0)))∧(w'.heap[s_.2]? = some (.cells #[.int .i64 0,.int .i64 0,.slice none 0 0,.int .i64 0,.slice none 0 0] 58 (0,0)))∧(w.heap.size≤s_.1)∧(w.heap.size≤s_.1)∧(gbz1 ≠ s_.1)∧(s_.1 ≠ gbz1)∧(gbz2 ≠ s_.1)∧(s_.1 ≠ gbz2)∧(s_.2 ≠ s_.1)∧(s_.1 ≠ s_.2)∧(w.heap.size≤s_.2)∧(w.heap.size≤s_.2)∧(gbz1 ≠ s_.2)∧(s_.2 ≠ gbz1)∧(gbz2 ≠ s_.2)∧(s_.2 ≠ gbz2)∧(Below w.heap.size w w')) ?_ ?_
     rotate_left
     ·intro hCont
      refine two_ (i:=10) (j:=11) (Ni:=some 7) (Nj:=some 8) #[true,true,true,true,true,true,true,true,true,true,true,false,false,false] #[true,true,true,true,true,true,true,true,true,true,false,true,false,false] rfl rfl rfl rfl (two_of HT_.out (by kernel_rfl)) (by decide) (by decide) (fun K hK => ?_) (fun K hK => ?_)
      ·skip
       refine box_step ?hg (N:=7) ?hd (cs:=#[.int .i64 0,.int .i64 0,.slice none 0 0,.int .i64 0,.slice none 0 0]) (t:=58) ?hr ?_;(case hd=>rfl);(case hg=>rfl);(case hr=>first | (go_simp;done) | (go_simp;rfl))
       intro gbv1 hg wv2 hbox hb
       have BKv1:=aM (hbox)
       have GWv1:=aG hg HB
       have GEv1:=aG hg HB
       have NBv1:=aL hg BKz1
       have NBv2:=aR hg BKz1
       have NBv3:=aL hg BKz2
       have NBv4:=aR hg BKz2
       replace BKz1:=aB BKz1 hb
       replace BKz2:=aB BKz2 hb
       replace HB:=aS HB hb
       clear hb hbox hg
       refine hK.out _ _ ⟨cK BKz1.out 0,cK BKz1.out 1,cK BKz2.out 0,cK BKz2.out 1,(bc HB.out hwv5 :),(bc HB.out hwv4 :),(bc HB.out hwv3 :),(bc HB.out hwv2 :),(bc HB.out hwv1 :),(bc HB.out hwv10 :),(bc HB.out hwv9 :),(bc HB.out hwv8 :),(bc HB.out hwv7 :),(bc HB.out hwv6 :)⟩ (fun hHeld => ?_)
       clear hK K
       refine nZ 7 ?_
       refine oZ 11 (some 8) (bm 14 4095) HT_.out (fun K hK => ?_)
       refine box_step ?hg (N:=8) ?hd (cs:=#[.int .i64 0,.int .i64 0,.slice none 0 0,.int .i64 0,.slice none 0 0]) (t:=58) ?hr ?_;(case hd=>rfl);(case hg=>rfl);(case hr=>first | (go_simp;done) | (go_simp;rfl))
       intro gbv2 hg wv3 hbox hb
       have BKv2:=aM (hbox)
       have GWv2:=aG hg HB
       have GEv2:=aG hg HB
       have NBv5:=aL hg BKz1
       have NBv6:=aR hg BKz1
       have NBv7:=aL hg BKz2
       have NBv8:=aR hg BKz2
       have NBv9:=aL hg BKv1
       have NBv10:=aR hg BKv1
       replace BKz1:=aB BKz1 hb
       replace BKz2:=aB BKz2 hb
       replace BKv1:=aB BKv1 hb
       replace HB:=aS HB hb
       clear hb hbox hg
       refine hK.out _ _ ⟨cK BKz1.out 0,cK BKz1.out 1,cK BKz2.out 0,cK BKz2.out 1,(bc HB.out hwv5 :),(bc HB.out hwv4 :),(bc HB.out hwv3 :),(bc HB.out hwv2 :),(bc HB.out hwv1 :),(bc HB.out hwv10 :),(bc HB.out hwv9 :),(bc HB.out hwv8 :),(bc HB.out hwv7 :),(bc HB.out hwv6 :)⟩ (fun hHeld => ?_)
       clear hK K
       refine nZ 8 ?_
       exact norm_ (by simp only[putAll,Act.put,List.setIfInBounds_toArray,List.set_cons_zero,List.set_cons_succ]) (hCont (gbv1,gbv2) _ ⟨hHeld,(bX BKz1.out),(bX BKz2.out),(bX BKv1.out),(bX BKv2.out),GWv1.out,GEv1.out,NBv1.out,NBv2.out,NBv3.out,NBv4.out,NBv10.out,NBv9.out,GWv2.out,GEv2.out,NBv5.out,NBv6.out,NBv7.out,NBv8.out,(hX HB.out)⟩)
      skip
      refine box_step ?hg (N:=8) ?hd (cs:=#[.int .i64 0,.int .i64 0,.slice none 0 0,.int .i64 0,.slice none 0 0]) (t:=58) ?hr ?_;(case hd=>rfl);(case hg=>rfl);(case hr=>first | (go_simp;done) | (go_simp;rfl))
      intro gbv2 hg wv2 hbox hb
      have BKv2:=aM (hbox)
      have GWv2:=aG hg HB
      have GEv2:=aG hg HB
      have NBv5:=aL hg BKz1
      have NBv6:=aR hg BKz1
      have NBv7:=aL hg BKz2
      have NBv8:=aR hg BKz2
      replace BKz1:=aB BKz1 hb
      replace BKz2:=aB BKz2 hb
      replace HB:=aS HB hb
      clear hb hbox hg
      refine hK.out _ _ ⟨cK BKz1.out 0,cK BKz1.out 1,cK BKz2.out 0,cK BKz2.out 1,(bc HB.out hwv5 :),(bc HB.out hwv4 :),(bc HB.out hwv3 :),(bc HB.out hwv2 :),(bc HB.out hwv1 :),(bc HB.out hwv10 :),(bc HB.out hwv9 :),(bc HB.out hwv8 :),(bc HB.out hwv7 :),(bc HB.out hwv6 :)⟩ (fun hHeld => ?_)
      clear hK K
      refine nZ 8 ?_
      refine oZ 10 (some 7) (bm 14 4095) HT_.out (fun K hK => ?_)
      refine box_step ?hg (N:=7) ?hd (cs:=#[.int .i64 0,.int .i64 0,.slice none 0 0,.int .i64 0,.slice none 0 0]) (t:=58) ?hr ?_;(case hd=>rfl);(case hg=>rfl);(case hr=>first | (go_simp;done) | (go_simp;rfl))
      intro gbv1 hg wv3 hbox hb
      have BKv1:=aM (hbox)
      have GWv1:=aG hg HB
      have GEv1:=aG hg HB
      have NBv1:=aL hg BKz1
      have NBv2:=aR hg BKz1
      have NBv3:=aL hg BKz2
      have NBv4:=aR hg BKz2
      have NBv10:=aL hg BKv2
      have NBv9:=aR hg BKv2
      replace BKz1:=aB BKz1 hb
      replace BKz2:=aB BKz2 hb
      replace BKv2:=aB BKv2 hb
      replace HB:=aS HB hb
      clear hb hbox hg
      refine hK.out _ _ ⟨cK BKz1.out 0,cK BKz1.out 1,cK BKz2.out 0,cK BKz2.out 1,(bc HB.out hwv5 :),(bc HB.out hwv4 :),(bc HB.out hwv3 :),(bc HB.out hwv2 :),(bc HB.out hwv1 :),(bc HB.out hwv10 :),(bc HB.out hwv9 :),(bc HB.out hwv8 :),(bc HB.out hwv7 :),(bc HB.out hwv6 :)⟩ (fun hHeld => ?_)
      clear hK K
      refine nZ 7 ?_
      exact norm_ (by simp only[putAll,Act.put,List.setIfInBounds_toArray,List.set_cons_zero,List.set_cons_succ]) (hCont (gbv1,gbv2) _ ⟨hHeld,(bX BKz1.out),(bX BKz2.out),(bX BKv1.out),(bX BKv2.out),GWv1.out,GEv1.out,NBv1.out,NBv2.out,NBv3.out,NBv4.out,NBv10.out,NBv9.out,GWv2.out,GEv2.out,NBv5.out,NBv6.out,NBv7.out,NBv8.out,(hX HB.out)⟩)
     rintro⟨gbv1,gbv2⟩ wv4 ⟨hS_,hv1,hv2,hv3,hv4,hv5,hv6,hv7,hv8,hv9,hv10,hv11,hv12,hv13,hv14,hv15,hv16,hv17,hv18,hv19⟩
     have nv1:Aside0 (wv4.heap[gbz1]? = some (.cells #[.slice A0_0 l0_0.length c0_0,.slice (some adv1) l0_1.length c0_1] 33 (0,0))):=⟨hv1⟩
     have nv2:Aside0 (wv4.heap[gbz2]? = some (.cells #[.slice A1_0 l1_0.length c1_0,.slice (some adv2) l1_1.length c1_1] 33 (0,0))):=⟨hv2⟩
     have nv3:Aside0 (wv4.heap[gbv1]? = some (.cells #[.int .i64 0,.int .i64 0,.slice none 0 0,.int .i64 0,.slice none 0 0] 58 (0,0))):=⟨hv3⟩
     have nv4:Aside0 (wv4.heap[gbv2]? = some (.cells #[.int .i64 0,.int .i64 0,.slice none 0 0,.int .i64 0,.slice none 0 0] 58 (0,0))):=⟨hv4⟩
     have nv5:Aside0 (w.heap.size≤gbv1):=⟨hv5⟩
     have nv6:Aside0 (w.heap.size≤gbv1):=⟨hv6⟩
     have nv7:Aside0 (gbz1 ≠ gbv1):=⟨hv7⟩
     have nv8:Aside0 (gbv1 ≠ gbz1):=⟨hv8⟩
     have nv9:Aside0 (gbz2 ≠ gbv1):=⟨hv9⟩
     have nv10:Aside0 (gbv1 ≠ gbz2):=⟨hv10⟩
     have nv11:Aside0 (gbv2 ≠ gbv1):=⟨hv11⟩
     have nv12:Aside0 (gbv1 ≠ gbv2):=⟨hv12⟩
     have nv13:Aside0 (w.heap.size≤gbv2):=⟨hv13⟩
     have nv14:Aside0 (w.heap.size≤gbv2):=⟨hv14⟩
     have nv15:Aside0 (gbz1 ≠ gbv2):=⟨hv15⟩
     have nv16:Aside0 (gbv2 ≠ gbz1):=⟨hv16⟩
     have nv17:Aside0 (gbz2 ≠ gbv2):=⟨hv17⟩
     have nv18:Aside0 (gbv2 ≠ gbz2):=⟨hv18⟩
     have nv19:Aside0 (Below w.heap.size w wv4):=⟨hv19⟩
     clear BKz1
     clear BKz2
     clear HB
     clear hv1 hv2 hv3 hv4 hv5 hv6 hv7 hv8 hv9 hv10 hv11 hv12 hv13 hv14 hv15 hv16 hv17 hv18 hv19
     have BKz1:=nv1
     have BKz2:=nv2
     have BKv1:=nv3
     have BKv2:=nv4
     have GWv1:=nv5
     have GEv1:=nv6
     have NBv1:=nv7
     have NBv2:=nv8
     have NBv3:=nv9
     have NBv4:=nv10
     have NBv10:=nv11
     have NBv9:=nv12
     have GWv2:=nv13
     have GEv2:=nv14
     have NBv5:=nv15
     have NBv6:=nv16
     have NBv7:=nv17
     have NBv8:=nv18
     have HB:=nv19
     clear nv1 nv2 nv3 nv4 nv5 nv6 nv7 nv8 nv9 nv10 nv11 nv12 nv13 nv14 nv15 nv16 nv17 nv18 nv19
     have hHeld:wv4.cell? ⟨gbz1,0,none⟩=some (.slice A0_0 l0_0.length c0_0)∧wv4.cell? ⟨gbz1,1,none⟩=some (.slice (some adv1) l0_1.length c0_1)∧wv4.cell? ⟨gbz2,0,none⟩=some (.slice A1_0 l1_0.length c1_0)∧wv4.cell? ⟨gbz2,1,none⟩=some (.slice (some adv2) l1_1.length c1_1)∧wv4.cell? (adv1.add ((x6_2).toNat * 5))=some (.int .i64 ((rd_T58 l0_1 x6_2).f0))∧wv4.cell? ⟨(adv1.add ((x6_2).toNat * 5)).block,(adv1.add ((x6_2).toNat * 5)).off+1,none⟩=some (.int .i64 ((rd_T58 l0_1 x6_2).f1))∧wv4.cell? ⟨(adv1.add ((x6_2).toNat * 5)).block,(adv1.add ((x6_2).toNat * 5)).off+2,none⟩=some (.slice Av1 ((rd_T58 l0_1 x6_2).f2).length cv1)∧wv4.cell? ⟨(adv1.add ((x6_2).toNat * 5)).block,(adv1.add ((x6_2).toNat * 5)).off+3,none⟩=some (.int .i64 ((rd_T58 l0_1 x6_2).f3.f0))∧wv4.cell? ⟨(adv1.add ((x6_2).toNat * 5)).block,(adv1.add ((x6_2).toNat * 5)).off+4,none⟩=some (.slice Av2 ((rd_T58 l0_1 x6_2).f3.f1).length cv2)∧wv4.cell? (adv2.add ((x6_2).toNat * 5))=some (.int .i64 ((rd_T58 l1_1 x6_2).f0))∧wv4.cell? ⟨(adv2.add ((x6_2).toNat * 5)).block,(adv2.add ((x6_2).toNat * 5)).off+1,none⟩=some (.int .i64 ((rd_T58 l1_1 x6_2).f1))∧wv4.cell? ⟨(adv2.add ((x6_2).toNat * 5)).block,(adv2.add ((x6_2).toNat * 5)).off+2,none⟩=some (.slice Av3 ((rd_T58 l1_1 x6_2).f2).length cv3)∧wv4.cell? ⟨(adv2.add ((x6_2).toNat * 5)).block,(adv2.add ((x6_2).toNat * 5)).off+3,none⟩=some (.int .i64 ((rd_T58 l1_1 x6_2).f3.f0))∧wv4.cell? ⟨(adv2.add ((x6_2).toNat * 5)).block,(adv2.add ((x6_2).toNat * 5)).off+4,none⟩=some (.slice Av4 ((rd_T58 l1_1 x6_2).f3.f1).length cv4):=hS_
     refine norm_ (a':=?_) ?_ ?_
     rotate_left
     ·simp only[putAll,Act.put,List.setIfInBounds_toArray,List.set_cons_zero,List.set_cons_succ]
      rfl
     refine oZ 12 none (bm 14 8191) HT_.out (fun K hK => ?_)
     have hsv1:wv4.cell? ⟨gbv1,0,none⟩=some (.int .i64 0):=(blk_cell BKv1.out 0).trans rfl
     have hfsv1:=blk_frozen BKv1.out 0
     have hnsv1:=nB NBv1 NBv3
     have hnsv3:=NBv10.out
     have hmsv1:=NBv2.out
     have hmsv2:=NBv4.out
     have hmsv3:=NBv9.out
     have hsv2:wv4.cell? ⟨gbv1,1,none⟩=some (.int .i64 0):=(blk_cell BKv1.out 1).trans rfl
     have hfsv2:=blk_frozen BKv1.out 1
     have hnsv4:=nB NBv1 NBv3
     have hnsv6:=NBv10.out
     have hmsv4:=NBv2.out
     have hmsv5:=NBv4.out
     have hmsv6:=NBv9.out
     have hsv3:wv4.cell? ⟨gbv1,2,none⟩=some (.slice none 0 0):=(blk_cell BKv1.out 2).trans rfl
     have hfsv3:=blk_frozen BKv1.out 2
     have hnsv7:=nB NBv1 NBv3
     have hnsv9:=NBv10.out
     have hmsv7:=NBv2.out
     have hmsv8:=NBv4.out
     have hmsv9:=NBv9.out
     have hsv4:wv4.cell? ⟨gbv1,3,none⟩=some (.int .i64 0):=(blk_cell BKv1.out 3).trans rfl
     have hfsv4:=blk_frozen BKv1.out 3
     have hnsv10:=nB NBv1 NBv3
     have hnsv12:=NBv10.out
     have hmsv10:=NBv2.out
     have hmsv11:=NBv4.out
     have hmsv12:=NBv9.out
     have hsv5:wv4.cell? ⟨gbv1,4,none⟩=some (.slice none 0 0):=(blk_cell BKv1.out 4).trans rfl
     have hfsv5:=blk_frozen BKv1.out 4
     have hnsv13:=nB NBv1 NBv3
     have hnsv15:=NBv10.out
     have hmsv13:=NBv2.out
     have hmsv14:=NBv4.out
     have hmsv15:=NBv9.out
     refine skip_ (w1:=?_) (by rfl) rfl ?_ ?_
     rotate_left
     ·go_simp
      rfl
     refine hK.out _ _ ⟨(fA NBv1.out hHeld.1),(fA NBv1.out hHeld.2.1),(fA NBv3.out hHeld.2.2.1),(fA NBv3.out hHeld.2.2.2.1),(fB hwv5 GWv1.out hHeld.2.2.2.2.1),(fB hwv4 GWv1.out hHeld.2.2.2.2.2.1),(fB hwv3 GWv1.out hHeld.2.2.2.2.2.2.1),(fB hwv2 GWv1.out hHeld.2.2.2.2.2.2.2.1),(fB hwv1 GWv1.out hHeld.2.2.2.2.2.2.2.2.1),(fB hwv10 GWv1.out hHeld.2.2.2.2.2.2.2.2.2.1),(fB hwv9 GWv1.out hHeld.2.2.2.2.2.2.2.2.2.2.1),(fB hwv8 GWv1.out hHeld.2.2.2.2.2.2.2.2.2.2.2.1),(fB hwv7 GWv1.out hHeld.2.2.2.2.2.2.2.2.2.2.2.2.1),(fB hwv6 GWv1.out hHeld.2.2.2.2.2.2.2.2.2.2.2.2.2)⟩ (fun hHeld => ?_)
     clear hK K
     refine oZ 13 none (bm 14 16383) HT_.out (fun K hK => ?_)
     have hsv6:wv4.cell? ⟨gbv2,0,none⟩=some (.int .i64 0):=(blk_cell BKv2.out 0).trans rfl
     have hfsv6:=blk_frozen BKv2.out 0
     have hnsv16:=nB NBv5 NBv7
     have hnsv18:=NBv9.out
     have hmsv16:=NBv6.out
     have hmsv17:=NBv8.out
     have hmsv18:=NBv10.out
     have hsv7:wv4.cell? ⟨gbv2,1,none⟩=some (.int .i64 0):=(blk_cell BKv2.out 1).trans rfl
     have hfsv7:=blk_frozen BKv2.out 1
     have hnsv19:=nB NBv5 NBv7
     have hnsv21:=NBv9.out
     have hmsv19:=NBv6.out
     have hmsv20:=NBv8.out
     have hmsv21:=NBv10.out
     have hsv8:wv4.cell? ⟨gbv2,2,none⟩=some (.slice none 0 0):=(blk_cell BKv2.out 2).trans rfl
     have hfsv8:=blk_frozen BKv2.out 2
     have hnsv22:=nB NBv5 NBv7
     have hnsv24:=NBv9.out
     have hmsv22:=NBv6.out
     have hmsv23:=NBv8.out
     have hmsv24:=NBv10.out
     have hsv9:wv4.cell? ⟨gbv2,3,none⟩=some (.int .i64 0):=(blk_cell BKv2.out 3).trans rfl
     have hfsv9:=blk_frozen BKv2.out 3
     have hnsv25:=nB NBv5 NBv7
     have hnsv27:=NBv9.out
     have hmsv25:=NBv6.out
     have hmsv26:=NBv8.out
     have hmsv27:=NBv10.out
     have hsv10:wv4.cell? ⟨gbv2,4,none⟩=some (.slice none 0 0):=(blk_cell BKv2.out 4).trans rfl
     have hfsv10:=blk_frozen BKv2.out 4
     have hnsv28:=nB NBv5 NBv7
     have hnsv30:=NBv9.out
     have hmsv28:=NBv6.out
     have hmsv29:=NBv8.out
     have hmsv30:=NBv10.out
     refine skip_ (w1:=?_) (by rfl) rfl ?_ ?_
     rotate_left
     ·go_simp
      rfl
     refine hK.out _ _ ⟨(fA NBv5.out hHeld.1),(fA NBv5.out hHeld.2.1),(fA NBv7.out hHeld.2.2.1),(fA NBv7.out hHeld.2.2.2.1),(fB hwv5 GWv2.out hHeld.2.2.2.2.1),(fB hwv4 GWv2.out hHeld.2.2.2.2.2.1),(fB hwv3 GWv2.out hHeld.2.2.2.2.2.2.1),(fB hwv2 GWv2.out hHeld.2.2.2.2.2.2.2.1),(fB hwv1 GWv2.out hHeld.2.2.2.2.2.2.2.2.1),(fB hwv10 GWv2.out hHeld.2.2.2.2.2.2.2.2.2.1),(fB hwv9 GWv2.out hHeld.2.2.2.2.2.2.2.2.2.2.1),(fB hwv8 GWv2.out hHeld.2.2.2.2.2.2.2.2.2.2.2.1),(fB hwv7 GWv2.out hHeld.2.2.2.2.2.2.2.2.2.2.2.2.1),(fB hwv6 GWv2.out hHeld.2.2.2.2.2.2.2.2.2.2.2.2.2)⟩ (fun hHeld => ?_)
     clear hK K
     refine done_ (done_of HT_.out (by kernel_rfl)) ?_
     have hnbv2:=nB NBv2 NBv1
     have hnbv3:=nB NBv4 NBv3
     have hnbv4:=nB NBv9 NBv10
     have hczv3:=cZ5 BKv1.out
     have hnbv5:=nB NBv6 NBv5
     have hnbv6:=nB NBv8 NBv7
     have hczv8:=cZ5 BKv2.out
     try go_wp2_with (first | (go_at_call 149;(with_reducible refine(XV.calls k2 _ _ ((rd_T58 l0_1 x6_2).f2) _ _ ((rd_T58 l1_1 x6_2).f2) true _ (rW HRv1 HB HCv1) (rW HRv3 HB HCv3) A24.out).mono ?_);rintro e w' ⟨rfl,⟨nd,rfl⟩⟩) | (go_at_call 85;(with_reducible refine(XaE.calls k2 ((rd_T58 l0_1 x6_2).f3.f0) _ _ ((rd_T58 l0_1 x6_2).f3.f1) ((rd_T58 l1_1 x6_2).f3.f0) _ _ ((rd_T58 l1_1 x6_2).f3.f1) true _ (rW HRv2 HB HCv2) (rW HRv4 HB HCv4) A26.out).mono ?_);rintro e wv5 ⟨rfl,hb⟩;replace BKz1:=aF BKz1 hb;replace BKz2:=aF BKz2 hb;replace BKv1:=aM (blk_below (g:=gbv1) (o:=.cells #[.int .i64 ((rd_T58 l0_1 x6_2).f0),.int .i64 ((rd_T58 l0_1 x6_2).f1),.slice Av1 ((rd_T58 l0_1 x6_2).f2).length cv1,.int .i64 ((rd_T58 l0_1 x6_2).f3.f0),.slice Av2 ((rd_T58 l0_1 x6_2).f3.f1).length cv2] 58 (0,0)) (bP BKv1.out) hb);replace BKv2:=aM (blk_below (g:=gbv2) (o:=.cells #[.int .i64 ((rd_T58 l1_1 x6_2).f0),.int .i64 ((rd_T58 l1_1 x6_2).f1),.slice Av3 ((rd_T58 l1_1 x6_2).f2).length cv3,.int .i64 ((rd_T58 l1_1 x6_2).f3.f0),.slice Av4 ((rd_T58 l1_1 x6_2).f3.f1).length cv4] 58 (0,0)) (bP BKv2.out) hb);replace HB:=aS HB hb;clear hb))
     go_roundg k2
     case measure=>have:=HKy1.out;have:=HKw1.out;omega
     case rel=>exact⟨(wrap64 (x6_2+1)),rS,H',⟨by have:=HKy1.out;have:=HKw1.out;omega⟩,⟨(bX BKz1.out)⟩,⟨(bX BKz2.out)⟩,⟨(hX HB.out)⟩⟩
end Go.Proofs.YthejoblnfpaojaaGreat.P
