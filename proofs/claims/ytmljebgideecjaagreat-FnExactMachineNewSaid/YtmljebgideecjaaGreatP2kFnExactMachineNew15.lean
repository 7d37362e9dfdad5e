/- A part of the proof of the law FnExactMachineNew: texts of this seat, merged (words, printed functions of the program, plain lemmas). Conditions: none of its own. -/
import Derived.Test.YtmljebgideecjaaGreatP2kFnExactMachineNew10
set_option linter.unusedSimpArgs false
set_option linter.unusedVariables false
set_option maxHeartbeats 8000000
set_option maxRecDepth 100000
namespace Go.Proofs.YtmljebgideecjaaGreat.P2
open Go.Proofs.YtmljebgideecjaaGreatZ Go.RowKit Go.Proofs.YtmljebgideecjaaGreatW.PrintWords Go.Proofs.YtmljebgideecjaaGreatW.PrintLast Go.Proofs.YtmljebgideecjaaGreatW.PrintMore
attribute [local go_sem] max2_int min2_int max_two min_two max_three min_three max_four min_four   -- for this text's walks alone
attribute [local go_sem high] eqA69
def XK.l0:Nat→Int→Int→Int→Int→List (S140)→List (S162)→List (S97)→Int→List (S73)→List Int→List Int→Int→List (S69)→Int→Bool→List (S172)→List (S174)→Option (Bool)
 | 0,_,_,_,_,_,_,_,_,_,_,_,_,_,_,_,_,_=>none
 | k+1,x1,x6,x7,x8,x102000,x102001,x102002,x102003,x102004,x102005,x102006,x102007,x104000,x104001,x104002,x104003,x104004=>if x8<(x102004.length:Int) then (if 0≤x8 then (if ((rd_T73 x102004 x8).f0)=x1 then (if ((rd_T73 x102004 x8).f4) ≥ 0 then (XK.l0 k x1 x6 (wrap64 (x7+1)) (wrap64 (x8+1)) x102000 x102001 x102002 x102003 x102004 x102005 x102006 x102007 x104000 x104001 x104002 x104003 x104004) else (if x104002=true then (if x8=x6 then (XK.l0 k x1 x6 x7 (wrap64 (x8+1)) x102000 x102001 x102002 x102003 x102004 x102005 x102006 x102007 x104000 x104001 x104002 x104003 x104004) else (some false)) else (some false))) else (XK.l0 k x1 x6 x7 (wrap64 (x8+1)) x102000 x102001 x102002 x102003 x102004 x102005 x102006 x102007 x104000 x104001 x104002 x104003 x104004)) else (none)) else (if x7=x104001 then (if x104002=true then (if x6 ≥ 0 then (if 0≤x6 then (if x6<(x102004.length:Int) then (if ((rd_T73 x102004 x6).f4)=(-1) then (if 0≤x104001 then (if x104001<(x104000.length:Int) then (some (((rd_T73 x102004 x6).f1.f0) == ((rd_T69 x104000 x104001).f0) && (((rd_T73 x102004 x6).f1.f1) == ((rd_T69 x104000 x104001).f1) && (((rd_T73 x102004 x6).f1.f2) == ((rd_T69 x104000 x104001).f2))))) else (none)) else (none)) else (some false)) else (none)) else (none)) else (some false)) else (some true)) else (some false))
def XK.f (k:Nat) (l0_0:List (S140)) (l0_1:List (S162)) (l0_2:List (S97)) (a0_3:Int) (l0_4:List (S73)) (l0_5:List Int) (l0_6:List Int) (a0_7:Int) (a1:Int):Option (Bool):=if 0≤a1 then (if a1<(l0_2.length:Int) then ((Xaf.f k l0_0 l0_1 l0_2 a0_3 l0_4 l0_5 l0_6 a0_7 a1).bind fun t104=>(XK.l0 k a1 t104 0 0 l0_0 l0_1 l0_2 a0_3 l0_4 l0_5 l0_6 a0_7 ((rd_T97 l0_2 a1).f0) ((rd_T97 l0_2 a1).f1) ((rd_T97 l0_2 a1).f2) ((rd_T97 l0_2 a1).f3) ((rd_T97 l0_2 a1).f4))) else (none)) else (none)
theorem XK.calls (k:Nat) (A0_0:Option Addr) (c0_0:Nat) (l0_0:List (S140)) (A0_1:Option Addr) (c0_1:Nat) (l0_1:List (S162)) (A0_2:Option Addr) (c0_2:Nat) (l0_2:List (S97)) (a0_3:Int) (A0_4:Option Addr) (c0_4:Nat) (l0_4:List (S73)) (A0_5:Option Addr) (c0_5:Nat) (l0_5:List Int) (A0_6:Option Addr) (c0_6:Nat) (l0_6:List Int) (a0_7:Int) (a1:Int) (r:Bool) (w:World) (h0_0:Rw k140 w A0_0 c0_0 l0_0) (h0_1:Rw k162 w A0_1 c0_1 l0_1) (h0_2:Rw k97 w A0_2 c0_2 l0_2) (h0_4:Rw k73 w A0_4 c0_4 l0_4) (h0_5:Rw (Kd.int .i64) w A0_5 c0_5 l0_5) (h0_6:Rw (Kd.int .i64) w A0_6 c0_6 l0_6) (H:XK.f k l0_0 l0_1 l0_2 a0_3 l0_4 l0_5 l0_6 a0_7 a1=some r) :
  Calls Tryz.prog 96 #[.agg #[.slice A0_0 l0_0.length c0_0,.slice A0_1 l0_1.length c0_1,.slice A0_2 l0_2.length c0_2,.int .i64 a0_3,.slice A0_4 l0_4.length c0_4,.slice A0_5 l0_5.length c0_5,.slice A0_6 l0_6.length c0_6,.int .i64 a0_7],.int .i64 a1] w fun e w'=>e = .returned (.bool r)∧Below w.heap.size w w':=by
 have hu43:=Tryz.underlying43
 have hu97:=Tryz.underlying97
 have hu69:=Tryz.underlying69
 obtain⟨HR0_0,HC0_0⟩:=h0_0
 obtain⟨HR0_1,HC0_1⟩:=h0_1
 obtain⟨HR0_2,HC0_2⟩:=h0_2
 obtain⟨HR0_4,HC0_4⟩:=h0_4
 obtain⟨HR0_5,HC0_5⟩:=h0_5
 obtain⟨HR0_6,HC0_6⟩:=h0_6
 have HB:=aM (Below.refl w.heap.size w)
 unfold XK.f at H
 replace H:=ifQ H;obtain⟨c3b0,H⟩:=H
 replace H:=ifQ H;obtain⟨c4b0,H⟩:=H
 replace H:=bE H;obtain⟨t104,A5,H⟩:=H
 have H':=aM H
 clear H
 go_enter Tryz.func96,Tryz.ntmps96
 go_wp2_with (first | (refine boxE 2 #[.slice A0_0 l0_0.length c0_0,.slice A0_1 l0_1.length c0_1,.slice A0_2 l0_2.length c0_2,.int .i64 a0_3,.slice A0_4 l0_4.length c0_4,.slice A0_5 l0_5.length c0_5,.slice A0_6 l0_6.length c0_6,.int .i64 a0_7] 43 ?_;intro gbz1 hg wz1 hbox hb;have BKz1:=aM (hbox);have GWz1:=aG hg HB;have GEz1:=aG hg HB;replace HB:=aS HB hb;clear hb hbox hg;have hczz1:=cZ8 BKz1.out;have pz1:0≤(a1:Int):=odA;have qz1:a1<(l0_2.length:Int):=odA;obtain⟨adz1,Az1,cz1,Az2,cz2,Az3,cz3,ez1,hxz1,hxz2,hxz3,hxz4,hxz5,hlz1,hiz1,hlz2,hiz2,hlz3,hiz3⟩:=at_T97 HR0_2.out a1 pz1 qz1;cases ez1;replace hxz1:=bc HB.out hxz1;replace hxz2:=bc HB.out hxz2;replace hxz3:=bc HB.out hxz3;replace hxz4:=bc HB.out hxz4;replace hxz5:=bc HB.out hxz5;have HRz1:=aM hiz1;have HCz1:=aM hlz1;clear hiz1 hlz1;have HRz2:=aM hiz2;have HCz2:=aM hlz2;clear hiz2 hlz2;have HRz3:=aM hiz3;have HCz3:=aM hlz3;clear hiz3 hlz3;replace pz1:=eq_true pz1;replace qz1:=eq_true qz1) | (refine boxE 5 #[.slice none 0 0,.int .i64 0,.bool false,.slice none 0 0,.slice none 0 0] 97 ?_;intro gbz2 hg wz2 hbox hb;have BKz2:=aM (hbox);have GWz2:=aG hg HB;have GEz2:=aG hg HB;have NBz1:=aL hg BKz1;have NBz2:=aR hg BKz1;replace BKz1:=aB BKz1 hb;replace HB:=aS HB hb;clear hb hbox hg;have hnbz1:=NBz2.out;have hncz1:=NBz1.out;have hczz9:=cZ5 BKz2.out;have hczz14:=cZ8 BKz1.out) | (go_at_call 163;(with_reducible refine(Xaf.calls _ _ _ _ _ _ _ _ _ _ _ _ _ _ _ _ _ _ _ _ _ _ _ _ (rW HR0_0 HB HC0_0) (rW HR0_1 HB HC0_1) (rW HR0_2 HB HC0_2) (rW HR0_4 HB HC0_4) (rW HR0_5 HB HC0_5) (rW HR0_6 HB HC0_6) A5.out).mono ?_);rintro e wz3 ⟨rfl,hb⟩;replace BKz1:=aF BKz1 hb;replace BKz2:=aM (blk_below (g:=gbz2) (o:=.cells #[.slice Az1 ((rd_T97 l0_2 a1).f0).length cz1,.int .i64 ((rd_T97 l0_2 a1).f1),.bool ((rd_T97 l0_2 a1).f2),.slice Az2 ((rd_T97 l0_2 a1).f3).length cz2,.slice Az3 ((rd_T97 l0_2 a1).f4).length cz3] 97 (0,0)) (bP BKz2.out) hb);replace HB:=aS HB hb;clear hb))
 repeat (go_quiet (fail);try go_wp2_with (first | ((with_reducible refine gate_dst (N:=2) rfl ?_);refine boxF 2 #[.slice A0_0 l0_0.length c0_0,.slice A0_1 l0_1.length c0_1,.slice A0_2 l0_2.length c0_2,.int .i64 a0_3,.slice A0_4 l0_4.length c0_4,.slice A0_5 l0_5.length c0_5,.slice A0_6 l0_6.length c0_6,.int .i64 a0_7] 43 ?_;intro gbz1 hg wz1 hbox hb;have BKz1:=aM (hbox);have GWz1:=aG hg HB;have GEz1:=aG hg HB;replace HB:=aS HB hb;clear hb hbox hg;have hczz1:=cZ8 BKz1.out;have pz1:0≤(a1:Int):=odA;have qz1:a1<(l0_2.length:Int):=odA;obtain⟨adz1,Az1,cz1,Az2,cz2,Az3,cz3,ez1,hxz1,hxz2,hxz3,hxz4,hxz5,hlz1,hiz1,hlz2,hiz2,hlz3,hiz3⟩:=at_T97 HR0_2.out a1 pz1 qz1;cases ez1;replace hxz1:=bc HB.out hxz1;replace hxz2:=bc HB.out hxz2;replace hxz3:=bc HB.out hxz3;replace hxz4:=bc HB.out hxz4;replace hxz5:=bc HB.out hxz5;have HRz1:=aM hiz1;have HCz1:=aM hlz1;clear hiz1 hlz1;have HRz2:=aM hiz2;have HCz2:=aM hlz2;clear hiz2 hlz2;have HRz3:=aM hiz3;have HCz3:=aM hlz3;clear hiz3 hlz3;replace pz1:=eq_true pz1;replace qz1:=eq_true qz1) | ((with_reducible refine gate_dst (N:=5) rfl ?_);refine boxF 5 #[.slice none 0 0,.int .i64 0,.bool false,.slice none 0 0,.slice none 0 0] 97 ?_;intro gbz2 hg wz2 hbox hb;have BKz2:=aM (hbox);have GWz2:=aG hg HB;have GEz2:=aG hg HB;have NBz1:=aL hg BKz1;have NBz2:=aR hg BKz1;replace BKz1:=aB BKz1 hb;replace HB:=aS HB hb;clear hb hbox hg;have hnbz1:=NBz2.out;have hncz1:=NBz1.out;have hczz9:=cZ5 BKz2.out;have hczz14:=cZ8 BKz1.out) | (go_at_call 163;(with_reducible refine(Xaf.calls _ _ _ _ _ _ _ _ _ _ _ _ _ _ _ _ _ _ _ _ _ _ _ _ (rW HR0_0 HB HC0_0) (rW HR0_1 HB HC0_1) (rW HR0_2 HB HC0_2) (rW HR0_4 HB HC0_4) (rW HR0_5 HB HC0_5) (rW HR0_6 HB HC0_6) A5.out).mono ?_);rintro e wz3 ⟨rfl,hb⟩;replace BKz1:=aF BKz1 hb;replace BKz2:=aM (blk_below (g:=gbz2) (o:=.cells #[.slice Az1 ((rd_T97 l0_2 a1).f0).length cz1,.int .i64 ((rd_T97 l0_2 a1).f1),.bool ((rd_T97 l0_2 a1).f2),.slice Az2 ((rd_T97 l0_2 a1).f3).length cz2,.slice Az3 ((rd_T97 l0_2 a1).f4).length cz3] 97 (0,0)) (bP BKz2.out) hb);replace HB:=aS HB hb;clear hb)))
 go_loopg [7,8] k (fun kq v7 v8 w'=>∃ (x7_1:Int) (x8_1:Int),v7 = .int .i64 x7_1∧v8 = .int .i64 x8_1∧Aside0 (XK.l0 kq a1 t104 x7_1 x8_1 l0_0 l0_1 l0_2 a0_3 l0_4 l0_5 l0_6 a0_7 ((rd_T97 l0_2 a1).f0) ((rd_T97 l0_2 a1).f1) ((rd_T97 l0_2 a1).f2) ((rd_T97 l0_2 a1).f3) ((rd_T97 l0_2 a1).f4)=some r)∧Aside0 (kq≤k)∧Aside0 (w'.heap[gbz1]? = some (.cells #[(.slice A0_0 l0_0.length c0_0),(.slice A0_1 l0_1.length c0_1),(.slice (some adz1) l0_2.length c0_2),.int .i64 a0_3,(.slice A0_4 l0_4.length c0_4),(.slice A0_5 l0_5.length c0_5),(.slice A0_6 l0_6.length c0_6),.int .i64 a0_7] 43 (0,0)))∧Aside0 (w'.heap[gbz2]? = some (.cells #[(.slice Az1 ((rd_T97 l0_2 a1).f0).length cz1),.int .i64 ((rd_T97 l0_2 a1).f1),.bool ((rd_T97 l0_2 a1).f2),(.slice Az2 ((rd_T97 l0_2 a1).f3).length cz2),(.slice Az3 ((rd_T97 l0_2 a1).f4).length cz3)] 97 (0,0)))∧Aside0 (Below w.heap.size w w'))
 case atStart=>exact⟨(0),(0),rS,rS,H',⟨Nat.le_refl _⟩,⟨(bX BKz1.out)⟩,⟨(bX BKz2.out)⟩,⟨(hX HB.out)⟩⟩
 case round =>
  clear H'
  try clear c3b0
  try clear c4b0
  try clear hczz9
  try clear hczz14
  try clear hczz1
  try clear hxz1
  try clear hxz2
  try clear hxz3
  try clear hxz4
  try clear hxz5
  try clear pz1
  try clear qz1
  obtain⟨x7_1,x8_1,rfl,rfl,HA,HKy1,BKz1,BKz2,HB⟩:=hrel
  cases gk with
  | zero=>exact absurd HA.out (by simp[XK.l0])
  | succ k1 =>
   have H:=HA.out
   clear HA
   simp only[XK.l0] at H
   revert H;refine iN ?_ ?_<;>intro c13b0 H
   ·revert H;refine eN ?_ ?_<;>intro c32b0 c32b1 H
    ·obtain rfl:=sI H
     have hnbx1:=NBz1.out
     have hncx1:=NBz2.out
     have hczx1:=cZ8 BKz1.out
     have hczx9:=cZ5 BKz2.out
     go_wp2
     repeat (go_quiet (fail);try go_wp2)
     go_ret
     exact⟨rE,(hX HB.out)⟩
    by_cases c33:((rd_T97 l0_2 a1).f2)=true
    case neg =>
     rw[if_neg c33] at H
     have c33b0:((rd_T97 l0_2 a1).f2)=false:=by simpa using c33
     clear c33
     obtain rfl:=sI H
     have hnbx1:=NBz1.out
     have hncx1:=NBz2.out
     have hczx1:=cZ8 BKz1.out
     have hczx9:=cZ5 BKz2.out
     go_wp2
     repeat (go_quiet (fail);try go_wp2)
     go_ret
     exact⟨rE,(hX HB.out)⟩
    rw[if_pos c33] at H
    have c33b0:((rd_T97 l0_2 a1).f2)=true:=c33
    clear c33
    revert H;refine iN ?_ ?_<;>intro c34b0 H
    ·obtain rfl:=sI H
     have hnbx1:=NBz1.out
     have hncx1:=NBz2.out
     have hczx1:=cZ8 BKz1.out
     have hczx9:=cZ5 BKz2.out
     go_wp2
     repeat (go_quiet (fail);try go_wp2)
     go_ret
     exact⟨rE,(hX HB.out)⟩
    replace H:=ifQ H;obtain⟨c35b0,H⟩:=H
    replace H:=ifQ H;obtain⟨c36b0,H⟩:=H
    revert H;refine eN ?_ ?_<;>intro c37b0 c37b1 H
    ·obtain rfl:=sI H
     have hnbx1:=NBz1.out
     have hncx1:=NBz2.out
     have hczx1:=cZ8 BKz1.out
     have hczx9:=cZ5 BKz2.out
     obtain⟨adx1,Ax1,cx1,ex1,px1,qx1,hxx1,HCx1,HRx1⟩:=at_T73c HR0_4 HB t104
     cases ex1
     go_wp2
     repeat (go_quiet (fail);try go_wp2)
     go_ret
     exact⟨rE,(hX HB.out)⟩
    replace H:=ifQ H;obtain⟨c38b0,H⟩:=H
    replace H:=ifQ H;obtain⟨c39b0,H⟩:=H
    obtain rfl:=sI H
    have hnbx1:=NBz1.out
    have hncx1:=NBz2.out
    have hczx1:=cZ8 BKz1.out
    have hczx9:=cZ5 BKz2.out
    obtain⟨adx1,Ax1,cx1,ex1,px1,qx1,⟨hxx1,hxx2,hxx3,hxx4,hxx5,hxx6,hxx7,hxx8,hxx9⟩,HCx1,HRx1⟩:=at_T73c HR0_4 HB t104
    cases ex1
    obtain⟨adx2,Ax2,cx2,ex2,px2,qx2,⟨hxx10,hxx11,hxx12,hxx13,hxx14,hxx15,hxx16,hxx17,hxx18⟩,HCx2,HRx2⟩:=at_T73c HR0_4 HB t104
    obtain rfl:adx1=adx2:=(by injection ex2)
    have ea_:=Option.some.inj (hxx9.symm.trans hxx18)
    injection ea_ with ea_ en_ ec_
    subst ea_
    subst ec_
    clear en_
    obtain⟨adx3,ex3,px3,qx3,hxx19⟩:=at_T69c HRz1 HB ((rd_T97 l0_2 a1).f1)
    cases ex3
    go_wp2
    repeat (go_quiet (fail);try go_wp2)
    go_ret
    exact⟨rE,(hX HB.out)⟩
   replace H:=ifQ H;obtain⟨c14b0,H⟩:=H
   revert H;refine eN ?_ ?_<;>intro c15b0 c15b1 H
   ·have H':=aM H
    clear H
    have hnbx1:=NBz1.out
    have hncx1:=NBz2.out
    have hczx1:=cZ8 BKz1.out
    obtain⟨adx1,Ax1,cx1,ex1,px1,qx1,hxx1,HCx1,HRx1⟩:=at_T73c HR0_4 HB x8_1
    cases ex1
    go_wp2
    repeat (go_quiet (fail);try go_wp2)
    go_roundg k1
    case measure=>have:=HKy1.out;omega
    case rel=>exact⟨(x7_1),(wrap64 (x8_1+1)),rS,rS,H',⟨by have:=HKy1.out;omega⟩,⟨(bX BKz1.out)⟩,⟨(bX BKz2.out)⟩,⟨(hX HB.out)⟩⟩
   revert H;refine iP ?_ ?_<;>intro c16b0 H
   ·have H':=aM H
    clear H
    have hnbx1:=NBz1.out
    have hncx1:=NBz2.out
    have hczx1:=cZ8 BKz1.out
    obtain⟨adx1,Ax1,cx1,ex1,px1,qx1,⟨hxx1,hxx2,hxx3,hxx4,hxx5,hxx6,hxx7,hxx8,hxx9⟩,HCx1,HRx1⟩:=at_T73c HR0_4 HB x8_1
    cases ex1
    obtain⟨adx2,Ax2,cx2,ex2,px2,qx2,⟨hxx10,hxx11,hxx12,hxx13,hxx14,hxx15,hxx16,hxx17,hxx18⟩,HCx2,HRx2⟩:=at_T73c HR0_4 HB x8_1
    obtain rfl:adx1=adx2:=(by injection ex2)
    have ea_:=Option.some.inj (hxx9.symm.trans hxx18)
    injection ea_ with ea_ en_ ec_
    subst ea_
    subst ec_
    clear en_
    go_wp2
    repeat (go_quiet (fail);try go_wp2)
    go_roundg k1
    case measure=>have:=HKy1.out;omega
    case rel=>exact⟨(wrap64 (x7_1+1)),(wrap64 (x8_1+1)),rS,rS,H',⟨by have:=HKy1.out;omega⟩,⟨(bX BKz1.out)⟩,⟨(bX BKz2.out)⟩,⟨(hX HB.out)⟩⟩
   by_cases c19:((rd_T97 l0_2 a1).f2)=true
   case neg =>
    rw[if_neg c19] at H
    have c19b0:((rd_T97 l0_2 a1).f2)=false:=by simpa using c19
    clear c19
    obtain rfl:=sI H
    have hnbx1:=NBz1.out
    have hncx1:=NBz2.out
    have hczx1:=cZ8 BKz1.out
    obtain⟨adx1,Ax1,cx1,ex1,px1,qx1,⟨hxx1,hxx2,hxx3,hxx4,hxx5,hxx6,hxx7,hxx8,hxx9⟩,HCx1,HRx1⟩:=at_T73c HR0_4 HB x8_1
    cases ex1
    obtain⟨adx2,Ax2,cx2,ex2,px2,qx2,⟨hxx10,hxx11,hxx12,hxx13,hxx14,hxx15,hxx16,hxx17,hxx18⟩,HCx2,HRx2⟩:=at_T73c HR0_4 HB x8_1
    obtain rfl:adx1=adx2:=(by injection ex2)
    have ea_:=Option.some.inj (hxx9.symm.trans hxx18)
    injection ea_ with ea_ en_ ec_
    subst ea_
    subst ec_
    clear en_
    have hczx9:=cZ5 BKz2.out
    go_wp2
    repeat (go_quiet (fail);try go_wp2)
    go_ret
    exact⟨rE,(hX HB.out)⟩
   rw[if_pos c19] at H
   have c19b0:((rd_T97 l0_2 a1).f2)=true:=c19
   clear c19
   revert H;refine eN ?_ ?_<;>intro c20b0 c20b1 H
   ·obtain rfl:=sI H
    have hnbx1:=NBz1.out
    have hncx1:=NBz2.out
    have hczx1:=cZ8 BKz1.out
    obtain⟨adx1,Ax1,cx1,ex1,px1,qx1,⟨hxx1,hxx2,hxx3,hxx4,hxx5,hxx6,hxx7,hxx8,hxx9⟩,HCx1,HRx1⟩:=at_T73c HR0_4 HB x8_1
    cases ex1
    obtain⟨adx2,Ax2,cx2,ex2,px2,qx2,⟨hxx10,hxx11,hxx12,hxx13,hxx14,hxx15,hxx16,hxx17,hxx18⟩,HCx2,HRx2⟩:=at_T73c HR0_4 HB x8_1
    obtain rfl:adx1=adx2:=(by injection ex2)
    have ea_:=Option.some.inj (hxx9.symm.trans hxx18)
    injection ea_ with ea_ en_ ec_
    subst ea_
    subst ec_
    clear en_
    have hczx9:=cZ5 BKz2.out
    go_wp2
    repeat (go_quiet (fail);try go_wp2)
    go_ret
    exact⟨rE,(hX HB.out)⟩
   have H':=aM H
   clear H
   have hnbx1:=NBz1.out
   have hncx1:=NBz2.out
   have hczx1:=cZ8 BKz1.out
   obtain⟨adx1,Ax1,cx1,ex1,px1,qx1,⟨hxx1,hxx2,hxx3,hxx4,hxx5,hxx6,hxx7,hxx8,hxx9⟩,HCx1,HRx1⟩:=at_T73c HR0_4 HB x8_1
   cases ex1
   obtain⟨adx2,Ax2,cx2,ex2,px2,qx2,⟨hxx10,hxx11,hxx12,hxx13,hxx14,hxx15,hxx16,hxx17,hxx18⟩,HCx2,HRx2⟩:=at_T73c HR0_4 HB x8_1
   obtain rfl:adx1=adx2:=(by injection ex2)
   have ea_:=Option.some.inj (hxx9.symm.trans hxx18)
   injection ea_ with ea_ en_ ec_
   subst ea_
   subst ec_
   clear en_
   have hczx9:=cZ5 BKz2.out
   generalize hvb_:Value.bool ((rd_T97 l0_2 a1).f2)=vb_
   have HVb_:=aM hvb_
   clear hvb_
   go_wp2
   repeat (go_quiet (fail);try go_wp2)
   have hvb_:=HVb_.out
   clear HVb_
   subst hvb_
   go_roundg k1
   case measure=>have:=HKy1.out;omega
   case rel=>exact⟨(x7_1),(wrap64 (x8_1+1)),rS,rS,H',⟨by have:=HKy1.out;omega⟩,⟨(bX BKz1.out)⟩,⟨(bX BKz2.out)⟩,⟨(hX HB.out)⟩⟩
end Go.Proofs.YtmljebgideecjaaGreat.P2
namespace Go.Proofs.YtmljebgideecjaaGreat.P2
open Go.Proofs.YtmljebgideecjaaGreatZ Go.RowKit Go.Proofs.YtmljebgideecjaaGreatW.PrintWords Go.Proofs.YtmljebgideecjaaGreatW.PrintLast Go.Proofs.YtmljebgideecjaaGreatW.PrintMore
attribute [local go_sem] max2_int min2_int max_two min_two max_three min_three max_four min_four   -- for this text's walks alone
def XaV.f (a0:Int):Option (Int):=(Xb.f a0 0 2).bind fun t101=>(if t101=true then (some (wrap64 (10+a0))) else (some (-1)))
theorem XaV.calls (a0:Int) (r:Int) (w:World) (H:XaV.f a0=some r) :
  Calls Tryz.prog 147 #[.int .i64 a0] w fun e w'=>e = .returned (.int .i64 r)∧Drawn0 w w':=by
 unfold XaV.f at H
 replace H:=bE H;obtain⟨t101,A2,H⟩:=H
 go_enter Tryz.func147,Tryz.ntmps147
 cases t101
 case true =>
  rw[if_pos rfl] at H
  obtain rfl:=sI H
  go_wp2_with (refine gD 43 4 Tryz.func43 (Xb.calls _ _ _ _ _ A2.out) ?_;intro nd)
  go_ret
  exact⟨by first | rfl | (simp;done) | (simp[*];done),dX⟩
 rw[if_neg nft] at H
 obtain rfl:=sI H
 go_wp2_with (refine gD 43 4 Tryz.func43 (Xb.calls _ _ _ _ _ A2.out) ?_;intro nd)
 go_ret
 exact⟨by first | rfl | (simp;done) | (simp[*];done),dX⟩
def Xao.f (k:Nat) (l0_0:List Int) (a0_1:Int):Option (List Int × Int):=(Xac.f k l0_0).bind fun t104=>(some (t104,a0_1))
theorem Xao.calls (k:Nat) (A0_0:Option Addr) (c0_0:Nat) (l0_0:List Int) (a0_1:Int) (r1:List Int) (r2:Int) (w:World) (h0_0:Rw (Kd.int .i64) w A0_0 c0_0 l0_0) (h:Xao.f k l0_0 a0_1=some (r1,r2)) :
  Calls Tryz.prog 20 #[.agg #[.slice A0_0 l0_0.length c0_0,.int .i64 a0_1]] w fun e w'=>∃ v0_:Value,e = .returned (.agg #[v0_,.int .i64 r2])∧Kd.R (Kd.int .i64) 3 w' w.heap.size (fun _=>True) v0_ r1∧Below w.heap.size w w':=by
 have hu30:=Tryz.underlying30
 have hu41:=Tryz.underlying41
 obtain⟨HR0_0,HC0_0⟩:=h0_0
 have HB:=aM (Below.refl w.heap.size w)
 have H:=h
 unfold Xao.f at H
 clear h
 replace H:=bE H;obtain⟨t104,A2,H⟩:=H
 simp only[Option.some.injEq,Prod.mk.injEq] at H
 obtain⟨rfl,rfl⟩:=H
 go_enter Tryz.func20,Tryz.ntmps20
 go_wp2_with (first | (refine boxE 1 #[.slice A0_0 l0_0.length c0_0,.int .i64 a0_1] 30 ?_;intro gbz1 hg wz1 hbox hb;have BKz1:=aM (hbox);have GWz1:=aG hg HB;replace HB:=aS HB hb;clear hb hbox hg) | (refine boxE 2 #[.slice none 0 0,.int .i64 0] 41 ?_;intro gbz2 hg wz2 hbox hb;have BKz2:=aM (hbox);have GWz2:=aG hg HB;have NBz1:=aL hg BKz1;have NBz2:=aR hg BKz1;replace BKz1:=aB BKz1 hb;replace HB:=aS HB hb;clear hb hbox hg) | (refine boxE 3 #[.slice none 0 0,.int .i64 0] 41 ?_;intro gbz3 hg wz3 hbox hb;have BKz3:=aM (hbox);have GWz3:=aG hg HB;have NBz3:=aL hg BKz1;have NBz4:=aR hg BKz1;have NBz5:=aL hg BKz2;have NBz6:=aR hg BKz2;replace BKz1:=aB BKz1 hb;replace BKz2:=aB BKz2 hb;replace HB:=aS HB hb;clear hb hbox hg;have hnbz1:=nB NBz1 NBz2;have hnbz2:=nB NBz3 NBz4;have hczz1:=cZ2 BKz1.out) | (refine goesM 47 6 Tryz.func47 #[.slice A0_0 l0_0.length c0_0] ?_;refine(Xac.calls _ _ _ _ _ _ (rW HR0_0 HB HC0_0) A2.out).mono ?_;rintro e wz4 ⟨vz1,rfl,hoz1,hb⟩;refine⟨_,rfl,?_⟩;have HOz1:=aM (Kd.R_lower hoz1 (below_size (hX HB.out)));replace BKz1:=aB BKz1 hb;replace BKz2:=aB BKz2 hb;replace BKz3:=aB BKz3 hb;replace HB:=aS HB hb;clear hb hoz1;obtain⟨Aoz1,coz1,eoz1⟩:=Kd.R_slice HOz1.out;subst eoz1;have hnbz3:=nB NBz6 NBz5;have hczz3:=cZ2 BKz3.out;have hczz5:=cZ2 BKz1.out;have hczz7:=cZ2 BKz2.out))
 refine bodyPost_ret (results_cell_row rfl _ _ gbz2 41 #[.slice Aoz1 t104.length coz1,.int .i64 a0_1] (0,0) _ rfl (bP BKz2.out) Tryz.underlying41 rfl (by kernel_rfl)) rfl ?_
 exact⟨_,rE,(Kd.R_mono (rF2 HOz1.out BKz3.out BKz2.out) (fun _ hk=>trivial)),(hX HB.out)⟩
def Xaj.l0:Nat→List (S116)→List (S69)→Int→Option ((List (S69)))
 | 0,_,_,_=>none
 | k+1,x0,x3,x4=>if x4<(x0.length:Int) then (if 0≤x4 then ((Xbe.f ((rd_T116 x0 x4).f0) ((rd_T116 x0 x4).f1) ((rd_T116 x0 x4).f2)).bind fun bt105=>(if x4<(x3.length:Int) then (Xaj.l0 k x0 (x3.set (x4:Int).toNat (⟨bt105.1,bt105.2.1,bt105.2.2⟩:S69)) (wrap64 (x4+1))) else (none))) else (none)) else (some x3)
def Xaj.f (k:Nat) (l0:List (S116)):Option ((List (S69))):=if 0≤(l0.length:Int) then (if ((l0.length:Int):Int).toNat≤11728124029610 then (Xaj.l0 k l0 (List.replicate ((l0.length:Int):Int).toNat z69) 0) else (none)) else (none)
theorem Xaj.calls (k:Nat) (A0:Option Addr) (c0:Nat) (l0:List (S116)) (r:List (S69)) (w:World) (h0:Rw k116 w A0 c0 l0) (H:Xaj.f k l0=some r) :
  Calls Tryz.prog 66 #[.slice A0 l0.length c0] w fun e w'=>∃ v0_:Value,e = .returned (v0_)∧Kd.R k69 69 w' w.heap.size (fun _=>True) v0_ r∧Below w.heap.size w w':=by
 have hu116:=Tryz.underlying116
 have hu69:=Tryz.underlying69
 obtain⟨HR0,HC0⟩:=h0
 have HB:=aM (Below.refl w.heap.size w)
 unfold Xaj.f at H
 replace H:=ifP H;obtain⟨c2,H⟩:=H
 have c2b0:=eq_true c2
 have c2b1:=decide_eq_true c2
 clear c2
 replace H:=ifP H;obtain⟨c3,H⟩:=H
 have c3b0:=eq_true c3
 have c3b1:=decide_eq_true c3
 clear c3
 obtain⟨y101,hy101⟩:∃ y_:List (S69),y_=(List.replicate ((l0.length:Int):Int).toNat z69):=⟨_,rfl⟩
 replace H:(Xaj.l0 k l0 y101 0)=some r:=yH H hy101
 have Ny101:=aM hy101
 clear hy101
 have H':=aM H
 clear H
 go_enter Tryz.func66,Tryz.ntmps66
 go_wp2_with ((with_reducible refine gate_dst (N:=7) rfl ?_);refine Kd.R_make k69 _ 69 rfl (N:=7) rfl 93 _ _ rfl (l0.length:Int) rfl rfl Tryz.underlying93 (.agg #[(.int .i64 0),(.int .i64 0),(.int .i64 0)]) 24 info69 rfl (by decide) (by omega) z69 (ok:=fun _=>True) (okp:=fun _=>True) (k69_mkM _ _ _ z69 ) (fun _ hk=>hk) trivial (odA) (Nat.le_trans (Nat.mul_le_mul_right _ (odA:(l0.length:Int).toNat≤11728124029610)) (by omega)) (Below.refl _ _) (Nat.le_refl _) ?_;intro vz1 wz1 hoz1 hb hg_ hnew_;clear hg_ hnew_;(first | rw[← Ny101.out] at hoz1 | (simp only[Int.reduceToNat] at hoz1;rw[← Ny101.out] at hoz1));have HOz1:=aM (Kd.R_lower hoz1 (below_size (hX HB.out)));replace HB:=aS HB hb;clear hb hoz1)
 go_loopg [4] k (fun kq v4 w'=>∃ (x3_1:List (S69)) (x4_1:Int),v4 = .int .i64 x4_1∧Aside0 (Xaj.l0 kq l0 x3_1 x4_1=some r)∧Aside0 (kq≤k)∧Aside0 (Kd.R k69 69 w' w.heap.size (fun _=>True) vz1 x3_1)∧Aside0 (Below w.heap.size w w'))
 case atStart=>exact⟨(y101),(0),rS,H',⟨Nat.le_refl _⟩,⟨(rX HOz1.out)⟩,⟨(hX HB.out)⟩⟩
 case round =>
  clear H'
  try clear c2
  try clear c2b0
  try clear c2b1
  try clear c3
  try clear c3b0
  try clear c3b1
  obtain⟨x3_1,x4_1,rfl,HA,HKy1,HO_y1,HB⟩:=hrel
  cases gk with
  | zero=>exact absurd HA.out (by simp[Xaj.l0])
  | succ k1 =>
   have H:=HA.out
   clear HA
   simp only[Xaj.l0] at H
   revert H;refine iN ?_ ?_<;>intro c6b0 H
   ·obtain rfl:=sI H
    go_wp2
    go_ret
    exact⟨_,rE,(rX HO_y1.out),(hX HB.out)⟩
   replace H:=ifQ H;obtain⟨c7b0,H⟩:=H
   replace H:=bE H;obtain⟨⟨t105,t106,t107⟩,A8,H⟩:=H
   try dsimp only at H
   replace H:=ifQ H;obtain⟨c9b0,H⟩:=H
   obtain⟨y108,hy108⟩:∃ y_:List (S69),y_=(x3_1.set (x4_1:Int).toNat (⟨t105,t106,t107⟩:S69)):=⟨_,rfl⟩
   replace H:(Xaj.l0 k1 l0 y108 (wrap64 (x4_1+1)))=some r:=yH H hy108
   have Ny108:=aM hy108
   clear hy108
   have H':=aM H
   clear H
   obtain⟨adx1,ex1,px1,qx1,hxx1⟩:=at_T116c HR0 HB x4_1
   cases ex1
   go_wp2_with (first | (refine gB 126 20 Tryz.func126 (Xbe.calls _ _ _ _ _ _ _ A8.out) ?_;intro wx1 hb;replace HO_y1:=aQ HO_y1 hb;replace HB:=aS HB hb;clear hb;have px2:0≤(x4_1:Int):=odA;have qx2:(x4_1:Int)<((x3_1.length:Int):Int):=odA;obtain⟨gox1,cox1,eox1,gbx1,glx1,clx1,HGx1⟩:=Kd.R_form HO_y1.out (by omega);(first | cases eox1 | (injection eox1 with ea_ en_ ec_;(first | subst ea_ | (injection ea_ with ea_;subst ea_));subst ec_;clear en_));have GBx1:=aM gbx1;have GGx1:=aM HGx1;clear gbx1 glx1 HGx1;obtain⟨cex1,hclx1,hMx1,hccx1,hfrx1⟩:=Kd.R_elem HO_y1.out z69 (x4_1:Int) px2 qx2;obtain rfl:=k69_openM hMx1;have hxx4:wx1.cell? ⟨gox1,(x4_1:Int).toNat * 3,none⟩=some (.int .i64 ((rd_T69 x3_1 x4_1).f0)):=hccx1 0 _ rfl;have hxx5:wx1.cell? ⟨gox1,(x4_1:Int).toNat * 3+1,none⟩=some (.int .i64 ((rd_T69 x3_1 x4_1).f1)):=hccx1 1 _ rfl;have hxx6:wx1.cell? ⟨gox1,(x4_1:Int).toNat * 3+2,none⟩=some (.int .i64 ((rd_T69 x3_1 x4_1).f2)):=hccx1 2 _ rfl;have hfx1:wx1.frozen? ⟨gox1,(x4_1:Int).toNat * 3,none⟩=false:=hfrx1 0;have hfx2:wx1.frozen? ⟨gox1,(x4_1:Int).toNat * 3+1,none⟩=false:=hfrx1 1;have hfx3:wx1.frozen? ⟨gox1,(x4_1:Int).toNat * 3+2,none⟩=false:=hfrx1 2;clear hclx1 hccx1 hfrx1 hMx1;replace px2:=eq_true px2;replace qx2:=eq_true qx2;have HXx1:=aM (show Kd.R k69 69 wx1 w.heap.size (fun _=>True) (.slice (some ⟨gox1,0,none⟩) x3_1.length cox1) x3_1 from (rX HO_y1.out));obtain⟨cex2,hclx2,hMx2,hccx2,hfrx2⟩:=Kd.R_elem HXx1.out z69 (x4_1:Int) (odA) (by have h_:(x4_1:Int)<((x3_1.length:Int):Int):=odA;first | exact h_ | (have e_:=(Kd.R_reads' HO_y1.out).1;omega) | simpa using h_);obtain rfl:=k69_openM hMx2;have HPx1:=Kd.R_seg HXx1.out (x4_1:Int) (odA) (by have h_:(x4_1:Int)<((x3_1.length:Int):Int):=odA;first | exact h_ | (have e_:=(Kd.R_reads' HO_y1.out).1;omega) | simpa using h_) (seg:=[.int .i64 t105,.int .i64 t106,.int .i64 t107]) (j:=0) hclx2 hccx2 (show 3≤3 from by decide) (x':=(⟨t105,t106,t107⟩:S69)) (k69_mkM _ _ _ (⟨t105,t106,t107⟩:S69) ) (fun _ hk=>hk);have hxx7:=hccx2 0 _ rfl;(try simp only[show (k69).sz=3 from rfl,Nat.mul_one,Nat.add_zero] at hxx7);have hfx4:=hfrx2 0;(try simp only[show (k69).sz=3 from rfl,Nat.mul_one,Nat.add_zero] at hfx4);have hxx8:=hccx2 1 _ rfl;(try simp only[show (k69).sz=3 from rfl,Nat.mul_one,Nat.add_zero] at hxx8);have hfx5:=hfrx2 1;(try simp only[show (k69).sz=3 from rfl,Nat.mul_one,Nat.add_zero] at hfx5);have hxx9:=hccx2 2 _ rfl;(try simp only[show (k69).sz=3 from rfl,Nat.mul_one,Nat.add_zero] at hxx9);have hfx6:=hfrx2 2;(try simp only[show (k69).sz=3 from rfl,Nat.mul_one,Nat.add_zero] at hfx6);clear hclx2 hccx2 hfrx2 hMx2) | ((with_reducible refine gate_store (t:=69) (p:=21) rfl ?_);refine store_event (t:=69) (p:=21) (v:=?vo_wx2) (w1:=(((wx1.setCell ⟨gox1,(x4_1:Int).toNat * 3,none⟩ (.int .i64 t105)).setCell ⟨gox1,(x4_1:Int).toNat * 3+1,none⟩ (.int .i64 t106)).setCell ⟨gox1,(x4_1:Int).toNat * 3+2,none⟩ (.int .i64 t107))) ?hg ?ho ?hn ?hr ?_;(case ho=>rfl);(case hg=>rfl);(case hn=>rfl);(case hr=>first | (go_simp;done) | (go_simp;rfl));intro wx2 hw;have hg:wx1.grownBy wx2 (some gox1):=(by rw[hw];exact HPx1.2);have hp_:Kd.R k69 69 wx2 w.heap.size (fun _=>True) (.slice (some ⟨gox1,0,none⟩) x3_1.length cox1) y108:=(by rw[hw,Ny108.out];exact HPx1.1);clear HPx1;replace HO_y1:=aM (hp_);replace HB:=aM ((by rw[hw];exact below_set (below_set (below_set (HB.out) GBx1.out) GBx1.out) GBx1.out:Below w.heap.size w wx2));clear hg hw hp_))
   go_roundg k1
   case measure=>have:=HKy1.out;omega
   case rel=>exact⟨(y108),(wrap64 (x4_1+1)),rS,H',⟨by have:=HKy1.out;omega⟩,⟨(rX HO_y1.out)⟩,⟨(hX HB.out)⟩⟩
def Xah.f (a0:Int):Option (Bool):=(Xd.f a0 0 19).bind fun t101=>(some t101)
theorem Xah.calls (a0:Int) (r:Bool) (w:World) (H:Xah.f a0=some r) :
  Calls Tryz.prog 182 #[.int .i64 a0] w fun e w'=>e = .returned (.bool r)∧Drawn0 w w':=by
 unfold Xah.f at H
 replace H:=bE H;obtain⟨t101,A2,H⟩:=H
 obtain rfl:=sI H
 go_enter Tryz.func182,Tryz.ntmps182
 go_wp2_with (refine gD 102 4 Tryz.func102 (Xd.calls _ _ _ _ _ A2.out) ?_;intro nd)
 go_ret
 exact⟨by first | rfl | (simp;done) | (simp[*];done),dX⟩
def Xz.f (a0:Int):Option (Bool):=(Xd.f a0 0 1000).bind fun t101=>(some t101)
theorem Xz.calls (a0:Int) (r:Bool) (w:World) (H:Xz.f a0=some r) :
  Calls Tryz.prog 183 #[.int .i64 a0] w fun e w'=>e = .returned (.bool r)∧Drawn0 w w':=by
 unfold Xz.f at H
 replace H:=bE H;obtain⟨t101,A2,H⟩:=H
 obtain rfl:=sI H
 go_enter Tryz.func183,Tryz.ntmps183
 go_wp2_with (refine gD 102 4 Tryz.func102 (Xd.calls _ _ _ _ _ A2.out) ?_;intro nd)
 go_ret
 exact⟨by first | rfl | (simp;done) | (simp[*];done),dX⟩
def X6.f (a0:Int):Option (Bool):=(Xd.f a0 1 6).bind fun t101=>(some t101)
theorem X6.calls (a0:Int) (r:Bool) (w:World) (H:X6.f a0=some r) :
  Calls Tryz.prog 174 #[.int .i64 a0] w fun e w'=>e = .returned (.bool r)∧Drawn0 w w':=by
 unfold X6.f at H
 replace H:=bE H;obtain⟨t101,A2,H⟩:=H
 obtain rfl:=sI H
 go_enter Tryz.func174,Tryz.ntmps174
 go_wp2_with (refine gD 102 4 Tryz.func102 (Xd.calls _ _ _ _ _ A2.out) ?_;intro nd)
 go_ret
 exact⟨by first | rfl | (simp;done) | (simp[*];done),dX⟩
def slices_Contains_int_int.f (k:Nat) (l0:List Int) (a1:Int):Option (Bool):=(slices_Index_int_int.f k l0 a1).bind fun t101=>(some (decide (t101 ≥ 0)))
theorem slices_Contains_int_int.calls (k:Nat) (A0:Option Addr) (c0:Nat) (l0:List Int) (a1:Int) (r:Bool) (w:World) (hr0:Kd.C (Kd.int .i64) w A0 l0.length l0) (hc0:l0.length≤c0) (H:slices_Contains_int_int.f k l0 a1=some r) :
  Calls Tryz.prog 175 #[.slice A0 l0.length c0,.int .i64 a1] w fun e w'=>e = .returned (.bool r)∧Drawn0 w w':=by
 have HR0:=aM hr0
 have HC0:=aM hc0
 clear hr0 hc0
 unfold slices_Contains_int_int.f at H
 replace H:=bE H;obtain⟨t101,A3,H⟩:=H
 obtain rfl:=sI H
 go_enter Tryz.func175,Tryz.ntmps175
 go_wp2_with (refine gD 209 7 Tryz.func209 (slices_Index_int_int.calls _ _ _ _ _ _ _ (cX HR0.out) HC0.out A3.out) ?_;intro nd)
 go_ret
 exact⟨by first | rfl | (simp;done) | (simp[*];done),dX⟩
def Xai.f (a0_0:Int) (a0_1:Int) (a0_2:Int) (a0_3:Int) (a0_4:Int) (a0_5:Int) (a0_6:Int) (a0_7:Int) (l0_8:List Int) (a1:Int) (l2_0:List (S140)) (l2_1:List (S162)) (l2_2:List (S97)) (a2_3:Int) (l2_4:List (S73)) (l2_5:List Int) (l2_6:List Int) (a2_7:Int):Option (Bool):=if a1=(-1) then (some true) else ((Xd.f a1 a0_4 a2_3).bind fun t102=>(some t102))
theorem Xai.calls (a0_0:Int) (a0_1:Int) (a0_2:Int) (a0_3:Int) (a0_4:Int) (a0_5:Int) (a0_6:Int) (a0_7:Int) (A0_8:Option Addr) (c0_8:Nat) (l0_8:List Int) (a1:Int) (gc2:Nat) (A2_0:Option Addr) (c2_0:Nat) (l2_0:List (S140)) (A2_1:Option Addr) (c2_1:Nat) (l2_1:List (S162)) (A2_2:Option Addr) (c2_2:Nat) (l2_2:List (S97)) (a2_3:Int) (A2_4:Option Addr) (c2_4:Nat) (l2_4:List (S73)) (A2_5:Option Addr) (c2_5:Nat) (l2_5:List Int) (A2_6:Option Addr) (c2_6:Nat) (l2_6:List Int) (a2_7:Int) (r:Bool) (w:World) (h0_8:Rw (Kd.int .i64) w A0_8 c0_8 l0_8) (h2_0:Rw k140 w A2_0 c2_0 l2_0) (h2_1:Rw k162 w A2_1 c2_1 l2_1) (h2_2:Rw k97 w A2_2 c2_2 l2_2) (h2_4:Rw k73 w A2_4 c2_4 l2_4) (h2_5:Rw (Kd.int .i64) w A2_5 c2_5 l2_5) (h2_6:Rw (Kd.int .i64) w A2_6 c2_6 l2_6) (hbc2:w.heap[gc2]? = some (.cells #[.slice A2_0 l2_0.length c2_0,.slice A2_1 l2_1.length c2_1,.slice A2_2 l2_2.length c2_2,.int .i64 a2_3,.slice A2_4 l2_4.length c2_4,.slice A2_5 l2_5.length c2_5,.slice A2_6 l2_6.length c2_6,.int .i64 a2_7] 43 (0,0))) (H:Xai.f a0_0 a0_1 a0_2 a0_3 a0_4 a0_5 a0_6 a0_7 l0_8 a1 l2_0 l2_1 l2_2 a2_3 l2_4 l2_5 l2_6 a2_7=some r) :
  Calls Tryz.prog 104 #[.agg #[.int .i64 a0_0,.int .i64 a0_1,.int .i64 a0_2,.int .i64 a0_3,.int .i64 a0_4,.int .i64 a0_5,.int .i64 a0_6,.int .i64 a0_7,.slice A0_8 l0_8.length c0_8],.int .i64 a1,.pointer (some ⟨gc2,0,none⟩)] w fun e w'=>e = .returned (.bool r)∧Below w.heap.size w w':=by
 have hu73:=Tryz.underlying73
 obtain⟨HR0_8,HC0_8⟩:=h0_8
 obtain⟨HR2_0,HC2_0⟩:=h2_0
 obtain⟨HR2_1,HC2_1⟩:=h2_1
 obtain⟨HR2_2,HC2_2⟩:=h2_2
 obtain⟨HR2_4,HC2_4⟩:=h2_4
 obtain⟨HR2_5,HC2_5⟩:=h2_5
 obtain⟨HR2_6,HC2_6⟩:=h2_6
 have BKz1:=aM hbc2
 clear hbc2
 have HB:=aM (Below.refl w.heap.size w)
 unfold Xai.f at H
 revert H;refine eP ?_ ?_<;>intro c4b0 c4b1 H
 ·obtain rfl:=sI H
  go_enter Tryz.func104,Tryz.ntmps104
  go_wp2_with (refine boxE 3 #[.int .i64 a0_0,.int .i64 a0_1,.int .i64 a0_2,.int .i64 a0_3,.int .i64 a0_4,.int .i64 a0_5,.int .i64 a0_6,.int .i64 a0_7,.slice A0_8 l0_8.length c0_8] 73 ?_;intro gbz1 hg wz1 hbox hb;have BKz2:=aM (hbox);have GWz1:=aG hg HB;have GEz1:=aG hg HB;have NBz1:=aL hg BKz1;have NBz2:=aR hg BKz1;replace BKz1:=aB BKz1 hb;replace HB:=aS HB hb;clear hb hbox hg)
  go_ret
  exact⟨rE,(hX HB.out)⟩
 replace H:=bE H;obtain⟨tz1,Az1,H⟩:=H
 obtain rfl:=sI H
 go_enter Tryz.func104,Tryz.ntmps104
 go_wp2_with (first | (refine boxE 3 #[.int .i64 a0_0,.int .i64 a0_1,.int .i64 a0_2,.int .i64 a0_3,.int .i64 a0_4,.int .i64 a0_5,.int .i64 a0_6,.int .i64 a0_7,.slice A0_8 l0_8.length c0_8] 73 ?_;intro gbz1 hg wz2 hbox hb;have BKz2:=aM (hbox);have GWz1:=aG hg HB;have GEz1:=aG hg HB;have NBz1:=aL hg BKz1;have NBz2:=aR hg BKz1;replace BKz1:=aB BKz1 hb;replace HB:=aS HB hb;clear hb hbox hg;have hnbz1:=nB NBz2 NBz1;have hczz1:=cZ9 BKz2.out;have hczz10:=cZ8 BKz1.out) | (go_at_call 102;(with_reducible refine(Xd.calls a1 a0_4 a2_3 tz1 _ Az1.out).mono ?_);rintro e w' ⟨rfl,⟨nd,rfl⟩⟩))
 go_ret
 exact⟨rE,(hX HB.out)⟩
def XaK.f (a0:Int):Option (Bool):=(Xd.f a0 0 3).bind fun t101=>(some t101)
theorem XaK.calls (a0:Int) (r:Bool) (w:World) (H:XaK.f a0=some r) :
  Calls Tryz.prog 176 #[.int .i64 a0] w fun e w'=>e = .returned (.bool r)∧Drawn0 w w':=by
 unfold XaK.f at H
 replace H:=bE H;obtain⟨t101,A2,H⟩:=H
 obtain rfl:=sI H
 go_enter Tryz.func176,Tryz.ntmps176
 go_wp2_with (refine gD 102 4 Tryz.func102 (Xd.calls _ _ _ _ _ A2.out) ?_;intro nd)
 go_ret
 exact⟨by first | rfl | (simp;done) | (simp[*];done),dX⟩
def XaA.f (a0:Int):Option (Bool):=(Xd.f a0 0 2).bind fun t101=>(some t101)
theorem XaA.calls (a0:Int) (r:Bool) (w:World) (H:XaA.f a0=some r) :
  Calls Tryz.prog 177 #[.int .i64 a0] w fun e w'=>e = .returned (.bool r)∧Drawn0 w w':=by
 unfold XaA.f at H
 replace H:=bE H;obtain⟨t101,A2,H⟩:=H
 obtain rfl:=sI H
 go_enter Tryz.func177,Tryz.ntmps177
 go_wp2_with (refine gD 102 4 Tryz.func102 (Xd.calls _ _ _ _ _ A2.out) ?_;intro nd)
 go_ret
 exact⟨by first | rfl | (simp;done) | (simp[*];done),dX⟩
end Go.Proofs.YtmljebgideecjaaGreat.P2
