/- A part of the proof of the law FnExactReplay: texts of this seat, merged (words, printed functions of the program, plain lemmas). Conditions: none of its own. -/
import Derived.Test.YtmljebgideecjaaGreatP2kFnExactReplay12
set_option linter.unusedSimpArgs false
set_option linter.unusedVariables false
set_option maxHeartbeats 8000000
set_option maxRecDepth 100000
namespace Go.Proofs.YtmljebgideecjaaGreat.P2
open Go.Proofs.YtmljebgideecjaaGreatZ Go.RowKit Go.Proofs.YtmljebgideecjaaGreatW.PrintWords Go.Proofs.YtmljebgideecjaaGreatW.PrintLast Go.Proofs.YtmljebgideecjaaGreatW.PrintMore
attribute [local go_sem] max2_int min2_int max_two min_two max_three min_three max_four min_four   -- for this text's walks alone
attribute [local go_sem high] eqA69
def XK.l0:Nat→Int→Int→Int→Int→List (S140)→List (S162)→List (S97)→Int→List (S73)→List Int→List Int→Int→List (S69)→Int→Bool→List (S172)→List (S174)→Option (Bool)
 | 0,_,_,_,_,_,_,_,_,_,_,_,_,_,_,_,_,_=>none
 | k+1,x1,x6,x7,x8,x102000,x102001,x102002,x102003,x102004,x102005,x102006,x102007,x104000,x104001,x104002,x104003,x104004=>if x8<(x102004.length:Int) then (if 0≤x8 then (if ((rd_T73 x102004 x8).f0)=x1 then (if ((rd_T73 x102004 x8).f4) ≥ 0 then (XK.l0 k x1 x6 (wrap64 (x7+1)) (wrap64 (x8+1)) x102000 x102001 x102002 x102003 x102004 x102005 x102006 x102007 x104000 x104001 x104002 x104003 x104004) else (if x104002=true then (if x8=x6 then (XK.l0 k x1 x6 x7 (wrap64 (x8+1)) x102000 x102001 x102002 x102003 x102004 x102005 x102006 x102007 x104000 x104001 x104002 x104003 x104004) else (some false)) else (some false))) else (XK.l0 k x1 x6 x7 (wrap64 (x8+1)) x102000 x102001 x102002 x102003 x102004 x102005 x102006 x102007 x104000 x104001 x104002 x104003 x104004)) else (none)) else (if x7=x104001 then (if x104002=true then (if x6 ≥ 0 then (if 0≤x6 then (if x6<(x102004.length:Int) then (if ((rd_T73 x102004 x6).f4)=(-1) then (if 0≤x104001 then (if x104001<(x104000.length:Int) then (some (((rd_T73 x102004 x6).f1.f0) == ((rd_T69 x104000 x104001).f0) && (((rd_T73 x102004 x6).f1.f1) == ((rd_T69 x104000 x104001).f1) && (((rd_T73 x102004 x6).f1.f2) == ((rd_T69 x104000 x104001).f2))))) else (none)) else (none)) else (some false)) else (none)) else (none)) else (some false)) else (some true)) else (some false))
def XK.f (k:Nat) (l0_0:List (S140)) (l0_1:List (S162)) (l0_2:List (S97)) (a0_3:Int) (l0_4:List (S73)) (l0_5:List Int) (l0_6:List Int) (a0_7:Int) (a1:Int):Option (Bool):=if 0≤a1 then (if a1<(l0_2.length:Int) then ((Xae.f k l0_0 l0_1 l0_2 a0_3 l0_4 l0_5 l0_6 a0_7 a1).bind fun t104=>(XK.l0 k a1 t104 0 0 l0_0 l0_1 l0_2 a0_3 l0_4 l0_5 l0_6 a0_7 ((rd_T97 l0_2 a1).f0) ((rd_T97 l0_2 a1).f1) ((rd_T97 l0_2 a1).f2) ((rd_T97 l0_2 a1).f3) ((rd_T97 l0_2 a1).f4))) else (none)) else (none)
theorem XK.calls (k:Nat) (A0_0:Option Addr) (c0_0:Nat) (l0_0:List (S140)) (A0_1:Option Addr) (c0_1:Nat) (l0_1:List (S162)) (A0_2:Option Addr) (c0_2:Nat) (l0_2:List (S97)) (a0_3:Int) (A0_4:Option Addr) (c0_4:Nat) (l0_4:List (S73)) (A0_5:Option Addr) (c0_5:Nat) (l0_5:List Int) (A0_6:Option Addr) (c0_6:Nat) (l0_6:List Int) (a0_7:Int) (a1:Int) (r:Bool) (w:World) (h0_0:Rw k140 w A0_0 c0_0 l0_0) (h0_1:Rw k162 w A0_1 c0_1 l0_1) (h0_2:Rw k97 w A0_2 c0_2 l0_2) (h0_4:Rw k73 w A0_4 c0_4 l0_4) (h0_5:Rw (Kd.int .i64) w A0_5 c0_5 l0_5) (h0_6:Rw (Kd.int .i64) w A0_6 c0_6 l0_6) (H:XK.f k l0_0 l0_1 l0_2 a0_3 l0_4 l0_5 l0_6 a0_7 a1=some r) :
  Calls Tryz.prog 96 #[.agg #[.slice A0_0 l0_0.length c0_0,.slice A0_1 l0_1.length c0_1,.slice A0_2 l0_2.length c0_2,.int .i64 a0_3,.slice A0_4 l0_4.length c0_4,.slice A0_5 l0_5.length c0_5,.slice A0_6 l0_6.length c0_6,.int .i64 a0_7],.int .i64 a1] w fun e w'=>e = .returned (.bool r)∧Below w.heap.size w w':=by
 have hu43:=Tryz.underlying43
 have hu97:=Tryz.underlying97
 have hu69:=Tryz.underlying69
 obtain⟨HR0_0,HC0_0⟩:=h0_0
 obtain⟨HR0_1,HC0_1⟩:=h0_1
 obtain⟨HR0_2,HC0_2⟩:=h0_2
 obtain⟨HR0_4,HC0_4⟩:=h0_4
 obtain⟨HR0_5,HC0_5⟩:=h0_5
 obtain⟨HR0_6,HC0_6⟩:=h0_6
 have HB:=aM (Below.refl w.heap.size w)
 unfold XK.f at H
 replace H:=ifQ H;obtain⟨c3b0,H⟩:=H
 replace H:=ifQ H;obtain⟨c4b0,H⟩:=H
 replace H:=bE H;obtain⟨t104,A5,H⟩:=H
 have H':=aM H
 clear H
 go_enter Tryz.func96,Tryz.ntmps96
 go_wp2_with (first | (refine boxE 2 #[.slice A0_0 l0_0.length c0_0,.slice A0_1 l0_1.length c0_1,.slice A0_2 l0_2.length c0_2,.int .i64 a0_3,.slice A0_4 l0_4.length c0_4,.slice A0_5 l0_5.length c0_5,.slice A0_6 l0_6.length c0_6,.int .i64 a0_7] 43 ?_;intro gbz1 hg wz1 hbox hb;have BKz1:=aM (hbox);have GWz1:=aG hg HB;have GEz1:=aG hg HB;replace HB:=aS HB hb;clear hb hbox hg;have hczz1:=cZ8 BKz1.out;have pz1:0≤(a1:Int):=odA;have qz1:a1<(l0_2.length:Int):=odA;obtain⟨adz1,Az1,cz1,Az2,cz2,Az3,cz3,ez1,hxz1,hxz2,hxz3,hxz4,hxz5,hlz1,hiz1,hlz2,hiz2,hlz3,hiz3⟩:=at_T97 HR0_2.out a1 pz1 qz1;cases ez1;replace hxz1:=bc HB.out hxz1;replace hxz2:=bc HB.out hxz2;replace hxz3:=bc HB.out hxz3;replace hxz4:=bc HB.out hxz4;replace hxz5:=bc HB.out hxz5;have HRz1:=aM hiz1;have HCz1:=aM hlz1;clear hiz1 hlz1;have HRz2:=aM hiz2;have HCz2:=aM hlz2;clear hiz2 hlz2;have HRz3:=aM hiz3;have HCz3:=aM hlz3;clear hiz3 hlz3;replace pz1:=eq_true pz1;replace qz1:=eq_true qz1) | (refine boxE 5 #[.slice none 0 0,.int .i64 0,.bool false,.slice none 0 0,.slice none 0 0] 97 ?_;intro gbz2 hg wz2 hbox hb;have BKz2:=aM (hbox);have GWz2:=aG hg HB;have GEz2:=aG hg HB;have NBz1:=aL hg BKz1;have NBz2:=aR hg BKz1;replace BKz1:=aB BKz1 hb;replace HB:=aS HB hb;clear hb hbox hg;have hnbz1:=NBz2.out;have hncz1:=NBz1.out;have hczz9:=cZ5 BKz2.out;have hczz14:=cZ8 BKz1.out) | (go_at_call 163;(with_reducible refine(Xae.calls _ _ _ _ _ _ _ _ _ _ _ _ _ _ _ _ _ _ _ _ _ _ _ _ (rW HR0_0 HB HC0_0) (rW HR0_1 HB HC0_1) (rW HR0_2 HB HC0_2) (rW HR0_4 HB HC0_4) (rW HR0_5 HB HC0_5) (rW HR0_6 HB HC0_6) A5.out).mono ?_);rintro e wz3 ⟨rfl,hb⟩;replace BKz1:=aF BKz1 hb;replace BKz2:=aM (blk_below (g:=gbz2) (o:=.cells #[.slice Az1 ((rd_T97 l0_2 a1).f0).length cz1,.int .i64 ((rd_T97 l0_2 a1).f1),.bool ((rd_T97 l0_2 a1).f2),.slice Az2 ((rd_T97 l0_2 a1).f3).length cz2,.slice Az3 ((rd_T97 l0_2 a1).f4).length cz3] 97 (0,0)) (bP BKz2.out) hb);replace HB:=aS HB hb;clear hb))
 repeat (go_quiet (fail);try go_wp2_with (first | ((with_reducible refine gate_dst (N:=2) rfl ?_);refine boxF 2 #[.slice A0_0 l0_0.length c0_0,.slice A0_1 l0_1.length c0_1,.slice A0_2 l0_2.length c0_2,.int .i64 a0_3,.slice A0_4 l0_4.length c0_4,.slice A0_5 l0_5.length c0_5,.slice A0_6 l0_6.length c0_6,.int .i64 a0_7] 43 ?_;intro gbz1 hg wz1 hbox hb;have BKz1:=aM (hbox);have GWz1:=aG hg HB;have GEz1:=aG hg HB;replace HB:=aS HB hb;clear hb hbox hg;have hczz1:=cZ8 BKz1.out;have pz1:0≤(a1:Int):=odA;have qz1:a1<(l0_2.length:Int):=odA;obtain⟨adz1,Az1,cz1,Az2,cz2,Az3,cz3,ez1,hxz1,hxz2,hxz3,hxz4,hxz5,hlz1,hiz1,hlz2,hiz2,hlz3,hiz3⟩:=at_T97 HR0_2.out a1 pz1 qz1;cases ez1;replace hxz1:=bc HB.out hxz1;replace hxz2:=bc HB.out hxz2;replace hxz3:=bc HB.out hxz3;replace hxz4:=bc HB.out hxz4;replace hxz5:=bc HB.out hxz5;have HRz1:=aM hiz1;have HCz1:=aM hlz1;clear hiz1 hlz1;have HRz2:=aM hiz2;have HCz2:=aM hlz2;clear hiz2 hlz2;have HRz3:=aM hiz3;have HCz3:=aM hlz3;clear hiz3 hlz3;replace pz1:=eq_true pz1;replace qz1:=eq_true qz1) | ((with_reducible refine gate_dst (N:=5) rfl ?_);refine boxF 5 #[.slice none 0 0,.int .i64 0,.bool false,.slice none 0 0,.slice none 0 0] 97 ?_;intro gbz2 hg wz2 hbox hb;have BKz2:=aM (hbox);have GWz2:=aG hg HB;have GEz2:=aG hg HB;have NBz1:=aL hg BKz1;have NBz2:=aR hg BKz1;replace BKz1:=aB BKz1 hb;replace HB:=aS HB hb;clear hb hbox hg;have hnbz1:=NBz2.out;have hncz1:=NBz1.out;have hczz9:=cZ5 BKz2.out;have hczz14:=cZ8 BKz1.out) | (go_at_call 163;(with_reducible refine(Xae.calls _ _ _ _ _ _ _ _ _ _ _ _ _ _ _ _ _ _ _ _ _ _ _ _ (rW HR0_0 HB HC0_0) (rW HR0_1 HB HC0_1) (rW HR0_2 HB HC0_2) (rW HR0_4 HB HC0_4) (rW HR0_5 HB HC0_5) (rW HR0_6 HB HC0_6) A5.out).mono ?_);rintro e wz3 ⟨rfl,hb⟩;replace BKz1:=aF BKz1 hb;replace BKz2:=aM (blk_below (g:=gbz2) (o:=.cells #[.slice Az1 ((rd_T97 l0_2 a1).f0).length cz1,.int .i64 ((rd_T97 l0_2 a1).f1),.bool ((rd_T97 l0_2 a1).f2),.slice Az2 ((rd_T97 l0_2 a1).f3).length cz2,.slice Az3 ((rd_T97 l0_2 a1).f4).length cz3] 97 (0,0)) (bP BKz2.out) hb);replace HB:=aS HB hb;clear hb)))
 go_loopg [7,8] k (fun kq v7 v8 w'=>∃ (x7_1:Int) (x8_1:Int),v7 = .int .i64 x7_1∧v8 = .int .i64 x8_1∧Aside0 (XK.l0 kq a1 t104 x7_1 x8_1 l0_0 l0_1 l0_2 a0_3 l0_4 l0_5 l0_6 a0_7 ((rd_T97 l0_2 a1).f0) ((rd_T97 l0_2 a1).f1) ((rd_T97 l0_2 a1).f2) ((rd_T97 l0_2 a1).f3) ((rd_T97 l0_2 a1).f4)=some r)∧Aside0 (kq≤k)∧Aside0 (w'.heap[gbz1]? = some (.cells #[(.slice A0_0 l0_0.length c0_0),(.slice A0_1 l0_1.length c0_1),(.slice (some adz1) l0_2.length c0_2),.int .i64 a0_3,(.slice A0_4 l0_4.length c0_4),(.slice A0_5 l0_5.length c0_5),(.slice A0_6 l0_6.length c0_6),.int .i64 a0_7] 43 (0,0)))∧Aside0 (w'.heap[gbz2]? = some (.cells #[(.slice Az1 ((rd_T97 l0_2 a1).f0).length cz1),.int .i64 ((rd_T97 l0_2 a1).f1),.bool ((rd_T97 l0_2 a1).f2),(.slice Az2 ((rd_T97 l0_2 a1).f3).length cz2),(.slice Az3 ((rd_T97 l0_2 a1).f4).length cz3)] 97 (0,0)))∧Aside0 (Below w.heap.size w w'))
 case atStart=>exact⟨(0),(0),rS,rS,H',⟨Nat.le_refl _⟩,⟨(bX BKz1.out)⟩,⟨(bX BKz2.out)⟩,⟨(hX HB.out)⟩⟩
 case round =>
  clear H'
  try clear c3b0
  try clear c4b0
  try clear hczz9
  try clear hczz14
  try clear hczz1
  try clear hxz1
  try clear hxz2
  try clear hxz3
  try clear hxz4
  try clear hxz5
  try clear pz1
  try clear qz1
  obtain⟨x7_1,x8_1,rfl,rfl,HA,HKy1,BKz1,BKz2,HB⟩:=hrel
  cases gk with
  | zero=>exact absurd HA.out (by simp[XK.l0])
  | succ k1 =>
   have H:=HA.out
   clear HA
   simp only[XK.l0] at H
   revert H;refine iN ?_ ?_<;>intro c13b0 H
   ·revert H;refine eN ?_ ?_<;>intro c32b0 c32b1 H
    ·obtain rfl:=sI H
     have hnbx1:=NBz1.out
     have hncx1:=NBz2.out
     have hczx1:=cZ8 BKz1.out
     have hczx9:=cZ5 BKz2.out
     go_wp2
     repeat (go_quiet (fail);try go_wp2)
     go_ret
     exact⟨rE,(hX HB.out)⟩
    by_cases c33:((rd_T97 l0_2 a1).f2)=true
    case neg =>
     rw[if_neg c33] at H
     have c33b0:((rd_T97 l0_2 a1).f2)=false:=by simpa using c33
     clear c33
     obtain rfl:=sI H
     have hnbx1:=NBz1.out
     have hncx1:=NBz2.out
     have hczx1:=cZ8 BKz1.out
     have hczx9:=cZ5 BKz2.out
     go_wp2
     repeat (go_quiet (fail);try go_wp2)
     go_ret
     exact⟨rE,(hX HB.out)⟩
    rw[if_pos c33] at H
    have c33b0:((rd_T97 l0_2 a1).f2)=true:=c33
    clear c33
    revert H;refine iN ?_ ?_<;>intro c34b0 H
    ·obtain rfl:=sI H
     have hnbx1:=NBz1.out
     have hncx1:=NBz2.out
     have hczx1:=cZ8 BKz1.out
     have hczx9:=cZ5 BKz2.out
     go_wp2
     repeat (go_quiet (fail);try go_wp2)
     go_ret
     exact⟨rE,(hX HB.out)⟩
    replace H:=ifQ H;obtain⟨c35b0,H⟩:=H
    replace H:=ifQ H;obtain⟨c36b0,H⟩:=H
    revert H;refine eN ?_ ?_<;>intro c37b0 c37b1 H
    ·obtain rfl:=sI H
     have hnbx1:=NBz1.out
     have hncx1:=NBz2.out
     have hczx1:=cZ8 BKz1.out
     have hczx9:=cZ5 BKz2.out
     obtain⟨adx1,Ax1,cx1,ex1,px1,qx1,hxx1,HCx1,HRx1⟩:=at_T73c HR0_4 HB t104
     cases ex1
     go_wp2
     repeat (go_quiet (fail);try go_wp2)
     go_ret
     exact⟨rE,(hX HB.out)⟩
    replace H:=ifQ H;obtain⟨c38b0,H⟩:=H
    replace H:=ifQ H;obtain⟨c39b0,H⟩:=H
    obtain rfl:=sI H
    have hnbx1:=NBz1.out
    have hncx1:=NBz2.out
    have hczx1:=cZ8 BKz1.out
    have hczx9:=cZ5 BKz2.out
    obtain⟨adx1,Ax1,cx1,ex1,px1,qx1,⟨hxx1,hxx2,hxx3,hxx4,hxx5,hxx6,hxx7,hxx8,hxx9⟩,HCx1,HRx1⟩:=at_T73c HR0_4 HB t104
    cases ex1
    obtain⟨adx2,Ax2,cx2,ex2,px2,qx2,⟨hxx10,hxx11,hxx12,hxx13,hxx14,hxx15,hxx16,hxx17,hxx18⟩,HCx2,HRx2⟩:=at_T73c HR0_4 HB t104
    obtain rfl:adx1=adx2:=(by injection ex2)
    have ea_:=Option.some.inj (hxx9.symm.trans hxx18)
    injection ea_ with ea_ en_ ec_
    subst ea_
    subst ec_
    clear en_
    obtain⟨adx3,ex3,px3,qx3,hxx19⟩:=at_T69c HRz1 HB ((rd_T97 l0_2 a1).f1)
    cases ex3
    go_wp2
    repeat (go_quiet (fail);try go_wp2)
    go_ret
    exact⟨rE,(hX HB.out)⟩
   replace H:=ifQ H;obtain⟨c14b0,H⟩:=H
   revert H;refine eN ?_ ?_<;>intro c15b0 c15b1 H
   ·have H':=aM H
    clear H
    have hnbx1:=NBz1.out
    have hncx1:=NBz2.out
    have hczx1:=cZ8 BKz1.out
    obtain⟨adx1,Ax1,cx1,ex1,px1,qx1,hxx1,HCx1,HRx1⟩:=at_T73c HR0_4 HB x8_1
    cases ex1
    go_wp2
    repeat (go_quiet (fail);try go_wp2)
    go_roundg k1
    case measure=>have:=HKy1.out;omega
    case rel=>exact⟨(x7_1),(wrap64 (x8_1+1)),rS,rS,H',⟨by have:=HKy1.out;omega⟩,⟨(bX BKz1.out)⟩,⟨(bX BKz2.out)⟩,⟨(hX HB.out)⟩⟩
   revert H;refine iP ?_ ?_<;>intro c16b0 H
   ·have H':=aM H
    clear H
    have hnbx1:=NBz1.out
    have hncx1:=NBz2.out
    have hczx1:=cZ8 BKz1.out
    obtain⟨adx1,Ax1,cx1,ex1,px1,qx1,⟨hxx1,hxx2,hxx3,hxx4,hxx5,hxx6,hxx7,hxx8,hxx9⟩,HCx1,HRx1⟩:=at_T73c HR0_4 HB x8_1
    cases ex1
    obtain⟨adx2,Ax2,cx2,ex2,px2,qx2,⟨hxx10,hxx11,hxx12,hxx13,hxx14,hxx15,hxx16,hxx17,hxx18⟩,HCx2,HRx2⟩:=at_T73c HR0_4 HB x8_1
    obtain rfl:adx1=adx2:=(by injection ex2)
    have ea_:=Option.some.inj (hxx9.symm.trans hxx18)
    injection ea_ with ea_ en_ ec_
    subst ea_
    subst ec_
    clear en_
    go_wp2
    repeat (go_quiet (fail);try go_wp2)
    go_roundg k1
    case measure=>have:=HKy1.out;omega
    case rel=>exact⟨(wrap64 (x7_1+1)),(wrap64 (x8_1+1)),rS,rS,H',⟨by have:=HKy1.out;omega⟩,⟨(bX BKz1.out)⟩,⟨(bX BKz2.out)⟩,⟨(hX HB.out)⟩⟩
   by_cases c19:((rd_T97 l0_2 a1).f2)=true
   case neg =>
    rw[if_neg c19] at H
    have c19b0:((rd_T97 l0_2 a1).f2)=false:=by simpa using c19
    clear c19
    obtain rfl:=sI H
    have hnbx1:=NBz1.out
    have hncx1:=NBz2.out
    have hczx1:=cZ8 BKz1.out
    obtain⟨adx1,Ax1,cx1,ex1,px1,qx1,⟨hxx1,hxx2,hxx3,hxx4,hxx5,hxx6,hxx7,hxx8,hxx9⟩,HCx1,HRx1⟩:=at_T73c HR0_4 HB x8_1
    cases ex1
    obtain⟨adx2,Ax2,cx2,ex2,px2,qx2,⟨hxx10,hxx11,hxx12,hxx13,hxx14,hxx15,hxx16,hxx17,hxx18⟩,HCx2,HRx2⟩:=at_T73c HR0_4 HB x8_1
    obtain rfl:adx1=adx2:=(by injection ex2)
    have ea_:=Option.some.inj (hxx9.symm.trans hxx18)
    injection ea_ with ea_ en_ ec_
    subst ea_
    subst ec_
    clear en_
    have hczx9:=cZ5 BKz2.out
    go_wp2
    repeat (go_quiet (fail);try go_wp2)
    go_ret
    exact⟨rE,(hX HB.out)⟩
   rw[if_pos c19] at H
   have c19b0:((rd_T97 l0_2 a1).f2)=true:=c19
   clear c19
   revert H;refine eN ?_ ?_<;>intro c20b0 c20b1 H
   ·obtain rfl:=sI H
    have hnbx1:=NBz1.out
    have hncx1:=NBz2.out
    have hczx1:=cZ8 BKz1.out
    obtain⟨adx1,Ax1,cx1,ex1,px1,qx1,⟨hxx1,hxx2,hxx3,hxx4,hxx5,hxx6,hxx7,hxx8,hxx9⟩,HCx1,HRx1⟩:=at_T73c HR0_4 HB x8_1
    cases ex1
    obtain⟨adx2,Ax2,cx2,ex2,px2,qx2,⟨hxx10,hxx11,hxx12,hxx13,hxx14,hxx15,hxx16,hxx17,hxx18⟩,HCx2,HRx2⟩:=at_T73c HR0_4 HB x8_1
    obtain rfl:adx1=adx2:=(by injection ex2)
    have ea_:=Option.some.inj (hxx9.symm.trans hxx18)
    injection ea_ with ea_ en_ ec_
    subst ea_
    subst ec_
    clear en_
    have hczx9:=cZ5 BKz2.out
    go_wp2
    repeat (go_quiet (fail);try go_wp2)
    go_ret
    exact⟨rE,(hX HB.out)⟩
   have H':=aM H
   clear H
   have hnbx1:=NBz1.out
   have hncx1:=NBz2.out
   have hczx1:=cZ8 BKz1.out
   obtain⟨adx1,Ax1,cx1,ex1,px1,qx1,⟨hxx1,hxx2,hxx3,hxx4,hxx5,hxx6,hxx7,hxx8,hxx9⟩,HCx1,HRx1⟩:=at_T73c HR0_4 HB x8_1
   cases ex1
   obtain⟨adx2,Ax2,cx2,ex2,px2,qx2,⟨hxx10,hxx11,hxx12,hxx13,hxx14,hxx15,hxx16,hxx17,hxx18⟩,HCx2,HRx2⟩:=at_T73c HR0_4 HB x8_1
   obtain rfl:adx1=adx2:=(by injection ex2)
   have ea_:=Option.some.inj (hxx9.symm.trans hxx18)
   injection ea_ with ea_ en_ ec_
   subst ea_
   subst ec_
   clear en_
   have hczx9:=cZ5 BKz2.out
   generalize hvb_:Value.bool ((rd_T97 l0_2 a1).f2)=vb_
   have HVb_:=aM hvb_
   clear hvb_
   go_wp2
   repeat (go_quiet (fail);try go_wp2)
   have hvb_:=HVb_.out
   clear HVb_
   subst hvb_
   go_roundg k1
   case measure=>have:=HKy1.out;omega
   case rel=>exact⟨(x7_1),(wrap64 (x8_1+1)),rS,rS,H',⟨by have:=HKy1.out;omega⟩,⟨(bX BKz1.out)⟩,⟨(bX BKz2.out)⟩,⟨(hX HB.out)⟩⟩
end Go.Proofs.YtmljebgideecjaaGreat.P2
namespace Go.Proofs.YtmljebgideecjaaGreat.P2
open Go.Proofs.YtmljebgideecjaaGreatZ Go.RowKit Go.Proofs.YtmljebgideecjaaGreatW.PrintWords Go.Proofs.YtmljebgideecjaaGreatW.PrintLast Go.Proofs.YtmljebgideecjaaGreatW.PrintMore
attribute [local go_sem] max2_int min2_int max_two min_two max_three min_three max_four min_four   -- for this text's walks alone
def Xac.j0:Nat→Bool→Bool→Int→Bool→List Int→Int→Int→Int→Int→Option (Bool)
 | 0,_,_,_,_,_,_,_,_,_=>none
 | k+1,x7,x8,x48,x49,x102000,x102001,x103000,x103001,x103002=>if x49=true then (if 0≤x103001 then (if x103001<(x102000.length:Int) then (some ((rd x102000 x103001) == 0)) else (none)) else (none)) else (if x48=5 then (some (!x7)) else (if x48=10 then (if x8=true then (some (!x7)) else (some false)) else (some false)))
def Xac.f (k:Nat) (l0_0:List Int) (a0_1:Int) (a1_0:Int) (a1_1:Int) (a1_2:Int) (a2:Int):Option (Bool):=(Xo.f k l0_0 a0_1 a1_2).bind fun t103=>(if a2=1 then (if a1_0=1 then (if 0≤a1_1 then (if a1_1<(l0_0.length:Int) then (some ((rd l0_0 a1_1) != 0)) else (none)) else (none)) else (some false)) else (if a2=2 then (if a1_0=1 then (some (decide (t103 ≥ 0))) else (if a1_0=2 then (some (decide (t103 ≥ 0))) else (some false))) else (if a2=3 then (if a1_0=2 then (Xac.j0 k (decide (t103 ≥ 0)) (a0_1 == 5) a1_0 (a1_0 == 2) l0_0 a0_1 a1_0 a1_1 a1_2) else (if a1_0=3 then (Xac.j0 k (decide (t103 ≥ 0)) (a0_1 == 5) a1_0 (a1_0 == 3) l0_0 a0_1 a1_0 a1_1 a1_2) else (Xac.j0 k (decide (t103 ≥ 0)) (a0_1 == 5) a1_0 (a1_0 == 4) l0_0 a0_1 a1_0 a1_1 a1_2))) else (if a2=4 then (if a1_0=8 then (some (a0_1 != 0)) else (if a1_0=9 then (if a0_1=0 then (some true) else (some (a0_1 == 5))) else (if a1_0=10 then (some (!(a0_1 == 5))) else (some false)))) else (some false)))))
theorem Xac.calls (k:Nat) (A0_0:Option Addr) (c0_0:Nat) (l0_0:List Int) (a0_1:Int) (a1_0:Int) (a1_1:Int) (a1_2:Int) (a2:Int) (r:Bool) (w:World) (h0_0:Rw (Kd.int .i64) w A0_0 c0_0 l0_0) (H:Xac.f k l0_0 a0_1 a1_0 a1_1 a1_2 a2=some r) :
  Calls Tryz.prog 139 #[.agg #[.slice A0_0 l0_0.length c0_0,.int .i64 a0_1],.agg #[.int .i64 a1_0,.int .i64 a1_1,.int .i64 a1_2],.int .i64 a2] w fun e w'=>e = .returned (.bool r)∧Below w.heap.size w w':=by
 have hu41:=Tryz.underlying41
 have hu69:=Tryz.underlying69
 obtain⟨HR0_0,HC0_0⟩:=h0_0
 have HB:=aM (Below.refl w.heap.size w)
 unfold Xac.f at H
 replace H:=bE H;obtain⟨t103,A4,H⟩:=H
 go_enter Tryz.func139,Tryz.ntmps139
 revert H;refine eP ?_ ?_<;>intro c5b0 c5b1 H
 ·go_wp2_with (first | (refine boxE 3 #[.slice A0_0 l0_0.length c0_0,.int .i64 a0_1] 41 ?_;intro gbz1 hg wz1 hbox hb;have BKz1:=aM (hbox);have GWz1:=aG hg HB;have GEz1:=aG hg HB;replace HB:=aS HB hb;clear hb hbox hg) | (refine boxE 4 #[.int .i64 a1_0,.int .i64 a1_1,.int .i64 a1_2] 69 ?_;intro gbz2 hg wz2 hbox hb;have BKz2:=aM (hbox);have GWz2:=aG hg HB;have GEz2:=aG hg HB;have NBz1:=aL hg BKz1;have NBz2:=aR hg BKz1;replace BKz1:=aB BKz1 hb;replace HB:=aS HB hb;clear hb hbox hg;have hnbz1:=NBz1.out;have hncz1:=NBz2.out;have hczz1:=cZ2 BKz1.out;have hczz3:=cZ3 BKz2.out;refine Stop.out ?_))
  refine⟨?_⟩
  revert H;refine eN ?_ ?_<;>intro c6b0 c6b1 H
  ·obtain rfl:=sI H
   go_wp2_with (refine gB 160 12 Tryz.func160 (Xo.calls _ _ _ _ _ _ _ _ (rW HR0_0 HB HC0_0) A4.out) ?_;intro wz3 hb;replace BKz1:=aB BKz1 hb;replace BKz2:=aB BKz2 hb;replace HB:=aS HB hb;clear hb;have hczz6:=cZ2 BKz1.out;have hczz8:=cZ3 BKz2.out)
   go_ret
   exact⟨rE,(hX HB.out)⟩
  replace H:=ifQ H;obtain⟨c7b0,H⟩:=H
  replace H:=ifQ H;obtain⟨c8b0,H⟩:=H
  obtain rfl:=sI H
  go_wp2_with (refine gB 160 12 Tryz.func160 (Xo.calls _ _ _ _ _ _ _ _ (rW HR0_0 HB HC0_0) A4.out) ?_;intro wz3 hb;replace BKz1:=aB BKz1 hb;replace BKz2:=aB BKz2 hb;replace HB:=aS HB hb;clear hb;have hczz6:=cZ2 BKz1.out;have hczz8:=cZ3 BKz2.out;have pz1:0≤(a1_1:Int):=odA;have qz1:a1_1<(l0_0.length:Int):=odA;obtain⟨adz1,ez1,hxz1⟩:=Kd.at_int HR0_0.out a1_1 pz1 qz1;cases ez1;replace hxz1:=bc HB.out hxz1;replace pz1:=eq_true pz1;replace qz1:=eq_true qz1)
  go_ret
  exact⟨rE,(hX HB.out)⟩
 revert H;refine eP ?_ ?_<;>intro c25b0 c25b1 H
 ·go_wp2_with (first | (refine boxE 3 #[.slice A0_0 l0_0.length c0_0,.int .i64 a0_1] 41 ?_;intro gbz1 hg wz1 hbox hb;have BKz1:=aM (hbox);have GWz1:=aG hg HB;have GEz1:=aG hg HB;replace HB:=aS HB hb;clear hb hbox hg) | (refine boxE 4 #[.int .i64 a1_0,.int .i64 a1_1,.int .i64 a1_2] 69 ?_;intro gbz2 hg wz2 hbox hb;have BKz2:=aM (hbox);have GWz2:=aG hg HB;have GEz2:=aG hg HB;have NBz1:=aL hg BKz1;have NBz2:=aR hg BKz1;replace BKz1:=aB BKz1 hb;replace HB:=aS HB hb;clear hb hbox hg;have hnbz1:=NBz1.out;have hncz1:=NBz2.out;have hczz1:=cZ2 BKz1.out;have hczz3:=cZ3 BKz2.out) | (refine gB 160 12 Tryz.func160 (Xo.calls _ _ _ _ _ _ _ _ (rW HR0_0 HB HC0_0) A4.out) ?_;intro wz3 hb;replace BKz1:=aB BKz1 hb;replace BKz2:=aB BKz2 hb;replace HB:=aS HB hb;clear hb;have hczz6:=cZ2 BKz1.out;have hczz8:=cZ3 BKz2.out;refine Stop.out ?_))
  refine⟨?_⟩
  revert H;refine eP ?_ ?_<;>intro c26b0 c26b1 H
  ·obtain rfl:=sI H
   exact fS
  revert H;refine eN ?_ ?_<;>intro c35b0 c35b1 H
  ·obtain rfl:=sI H
   exact fS
  exact fR
 revert H;refine eN ?_ ?_<;>intro c52b0 c52b1 H
 ·go_wp2_with (first | (refine boxE 3 #[.slice A0_0 l0_0.length c0_0,.int .i64 a0_1] 41 ?_;intro gbz1 hg wz1 hbox hb;have BKz1:=aM (hbox);have GWz1:=aG hg HB;have GEz1:=aG hg HB;replace HB:=aS HB hb;clear hb hbox hg) | (refine boxE 4 #[.int .i64 a1_0,.int .i64 a1_1,.int .i64 a1_2] 69 ?_;intro gbz2 hg wz2 hbox hb;have BKz2:=aM (hbox);have GWz2:=aG hg HB;have GEz2:=aG hg HB;have NBz1:=aL hg BKz1;have NBz2:=aR hg BKz1;replace BKz1:=aB BKz1 hb;replace HB:=aS HB hb;clear hb hbox hg;have hnbz1:=NBz1.out;have hncz1:=NBz2.out;have hczz1:=cZ2 BKz1.out;have hczz3:=cZ3 BKz2.out;refine Stop.out ?_))
  refine⟨?_⟩
  revert H;refine eN ?_ ?_<;>intro c73b0 c73b1 H
  ·obtain rfl:=sI H
   go_wp2_with (refine gB 160 12 Tryz.func160 (Xo.calls _ _ _ _ _ _ _ _ (rW HR0_0 HB HC0_0) A4.out) ?_;intro wz3 hb;replace BKz1:=aB BKz1 hb;replace BKz2:=aB BKz2 hb;replace HB:=aS HB hb;clear hb;have hczz6:=cZ2 BKz1.out)
   go_ret
   exact⟨rE,(hX HB.out)⟩
  go_wp2_with (refine gB 160 12 Tryz.func160 (Xo.calls _ _ _ _ _ _ _ _ (rW HR0_0 HB HC0_0) A4.out) ?_;intro wz3 hb;replace BKz1:=aB BKz1 hb;replace BKz2:=aB BKz2 hb;replace HB:=aS HB hb;clear hb;have hczz6:=cZ2 BKz1.out;have hczz8:=cZ3 BKz2.out;refine Stop.out ?_)
  refine⟨?_⟩
  revert H;refine eP ?_ ?_<;>intro c74b0 c74b1 H
  ·obtain rfl:=sI H
   exact fS
  revert H;refine eN ?_ ?_<;>intro c83b0 c83b1 H
  ·revert H;refine eN ?_ ?_<;>intro c101b0 c101b1 H
   ·obtain rfl:=sI H
    exact fS
   exact fR
  revert H;refine eN ?_ ?_<;>intro c84b0 c84b1 H
  ·obtain rfl:=sI H
   exact fS
  exact fR
 have HC53:=aM H
 clear H
 go_upto_if 49 with(first | ((with_reducible refine gate_dst (N:=3) rfl ?_);refine boxE 3 #[.slice A0_0 l0_0.length c0_0,.int .i64 a0_1] 41 ?_;intro gbz1 hg wz1 hbox hb;have BKz1:=aM (hbox);have GWz1:=aG hg HB;have GEz1:=aG hg HB;replace HB:=aS HB hb;clear hb hbox hg) | ((with_reducible refine gate_dst (N:=4) rfl ?_);refine boxE 4 #[.int .i64 a1_0,.int .i64 a1_1,.int .i64 a1_2] 69 ?_;intro gbz2 hg wz2 hbox hb;have BKz2:=aM (hbox);have GWz2:=aG hg HB;have GEz2:=aG hg HB;have NBz1:=aL hg BKz1;have NBz2:=aR hg BKz1;replace BKz1:=aB BKz1 hb;replace HB:=aS HB hb;clear hb hbox hg;have hnbz1:=NBz1.out;have hncz1:=NBz2.out;have hczz1:=cZ2 BKz1.out;have hczz3:=cZ3 BKz2.out) | ((with_reducible refine gate_callee (f:=160) rfl ?_);refine gB 160 12 Tryz.func160 (Xo.calls _ _ _ _ _ _ _ _ (rW HR0_0 HB HC0_0) A4.out) ?_;intro wz3 hb;replace BKz1:=aB BKz1 hb;replace BKz2:=aB BKz2 hb;replace HB:=aS HB hb;clear hb;have hczz6:=cZ2 BKz1.out;have hczz8:=cZ3 BKz2.out))
 (try simp only[Act.put,List.setIfInBounds_toArray,List.set_cons_zero,List.set_cons_succ])
 go_cut [49] (fun vz1 wc=>∃ (kq:Nat) (x49_52:Bool),vz1 = .bool x49_52∧Aside0 (Xac.j0 kq (decide (t103 ≥ 0)) (a0_1 == 5) a1_0 x49_52 l0_0 a0_1 a1_0 a1_1 a1_2=some r)∧Aside0 (kq≤k)∧Aside0 (wc.heap[gbz1]? = some (.cells #[(.slice A0_0 l0_0.length c0_0),.int .i64 a0_1] 41 (0,0)))∧Aside0 (wc.heap[gbz2]? = some (.cells #[.int .i64 a1_0,.int .i64 a1_1,.int .i64 a1_2] 69 (0,0)))∧Aside0 (Below w.heap.size w wc))
 case first =>
  have H:=HC53.out
  clear HC53
  revert H;refine eP ?_ ?_<;>intro c62b0 c62b1 H
  ·(first | rw[c62b0] | (simp only[i64_w,i32_w];rw[c62b0]) | skip)
   have H':=aM H
   clear H
   go_wp2
   go_meet
   case rel=>exact⟨_,((a1_0 == 2)),rS,H',⟨by first | omega | exact Nat.le_refl _⟩,⟨(bX BKz1.out)⟩,⟨(bX BKz2.out)⟩,⟨(hX HB.out)⟩⟩
  (first | rw[c62b0] | (simp only[i64_w,i32_w];rw[c62b0]) | skip)
  revert H;refine eN ?_ ?_<;>intro c63b0 c63b1 H
  ·have H':=aM H
   clear H
   go_wp2
   go_meet
   case rel=>exact⟨_,((a1_0 == 4)),rS,H',⟨by first | omega | exact Nat.le_refl _⟩,⟨(bX BKz1.out)⟩,⟨(bX BKz2.out)⟩,⟨(hX HB.out)⟩⟩
  have H':=aM H
  clear H
  go_wp2
  go_meet
  case rel=>exact⟨_,((a1_0 == 3)),rS,H',⟨by first | omega | exact Nat.le_refl _⟩,⟨(bX BKz1.out)⟩,⟨(bX BKz2.out)⟩,⟨(hX HB.out)⟩⟩
 case rest =>
  clear HC53
  try clear c5b0
  try clear c5b1
  try clear c25b0
  try clear c25b1
  try clear c52b0
  try clear c52b1
  try clear hczz1
  try clear hczz3
  try clear hczz6
  try clear hczz8
  obtain⟨kq,x49_52,rfl,HA,HJy1,BKz1,BKz2,HB⟩:=hcut
  cases kq with
  | zero=>exact absurd HA.out (by simp[Xac.j0])
  | succ kj52 =>
   have H:=HA.out
   clear HA
   simp only[Xac.j0] at H
   cases x49_52
   case true =>
    rw[if_pos rfl] at H
    replace H:=ifQ H;obtain⟨c65b0,H⟩:=H
    replace H:=ifQ H;obtain⟨c66b0,H⟩:=H
    obtain rfl:=sI H
    have hnbx1:=nB NBz1 NBz2
    have hczx1:=cZ2 BKz1.out
    have hczx3:=cZ3 BKz2.out
    obtain⟨adx1,ex1,px1,qx1,hxx1⟩:=at_ic HR0_0 HB a1_1
    cases ex1
    exact fS
   rw[if_neg nft] at H
   revert H;refine eP ?_ ?_<;>intro c70b0 c70b1 H
   ·obtain rfl:=sI H
    exact fS
   revert H;refine eN ?_ ?_<;>intro c71b0 c71b1 H
   ·obtain rfl:=sI H
    exact fS
   by_cases c72:(a0_1 == 5)=true
   ·rw[if_pos c72] at H
    have c72b0:(a0_1 == 5)=true:=c72
    (try (have c72b1:decide (a0_1=5)=true:=by simpa using c72))
    (try (have c72b2:(a0_1 == 5)=true:=by simpa using c72))
    clear c72
    exact fR
   rw[if_neg c72] at H
   have c72b0:(a0_1 == 5)=false:=by simpa using c72
   (try (have c72b1:decide (a0_1=5)=false:=by simpa using c72))
   (try (have c72b2:(a0_1 == 5)=false:=by simpa using c72))
   (try (have c72b3:¬ (a0_1=5):=by simpa using c72))
   clear c72
   exact fR
def Xah.f (a0:Int):Option (Bool):=(Xd.f a0 0 19).bind fun t101=>(some t101)
theorem Xah.calls (a0:Int) (r:Bool) (w:World) (H:Xah.f a0=some r) :
  Calls Tryz.prog 182 #[.int .i64 a0] w fun e w'=>e = .returned (.bool r)∧Drawn0 w w':=by
 unfold Xah.f at H
 replace H:=bE H;obtain⟨t101,A2,H⟩:=H
 obtain rfl:=sI H
 go_enter Tryz.func182,Tryz.ntmps182
 go_wp2_with (refine gD 102 4 Tryz.func102 (Xd.calls _ _ _ _ _ A2.out) ?_;intro nd)
 go_ret
 exact⟨by first | rfl | (simp;done) | (simp[*];done),dX⟩
def XE.f (a0:Int):Option (Bool):=(Xd.f a0 0 1000).bind fun t101=>(some t101)
theorem XE.calls (a0:Int) (r:Bool) (w:World) (H:XE.f a0=some r) :
  Calls Tryz.prog 183 #[.int .i64 a0] w fun e w'=>e = .returned (.bool r)∧Drawn0 w w':=by
 unfold XE.f at H
 replace H:=bE H;obtain⟨t101,A2,H⟩:=H
 obtain rfl:=sI H
 go_enter Tryz.func183,Tryz.ntmps183
 go_wp2_with (refine gD 102 4 Tryz.func102 (Xd.calls _ _ _ _ _ A2.out) ?_;intro nd)
 go_ret
 exact⟨by first | rfl | (simp;done) | (simp[*];done),dX⟩
def XR.f (a0:Int):Option (Bool):=(Xd.f a0 1 6).bind fun t101=>(some t101)
theorem XR.calls (a0:Int) (r:Bool) (w:World) (H:XR.f a0=some r) :
  Calls Tryz.prog 174 #[.int .i64 a0] w fun e w'=>e = .returned (.bool r)∧Drawn0 w w':=by
 unfold XR.f at H
 replace H:=bE H;obtain⟨t101,A2,H⟩:=H
 obtain rfl:=sI H
 go_enter Tryz.func174,Tryz.ntmps174
 go_wp2_with (refine gD 102 4 Tryz.func102 (Xd.calls _ _ _ _ _ A2.out) ?_;intro nd)
 go_ret
 exact⟨by first | rfl | (simp;done) | (simp[*];done),dX⟩
def slices_Contains_int_int.f (k:Nat) (l0:List Int) (a1:Int):Option (Bool):=(slices_Index_int_int.f k l0 a1).bind fun t101=>(some (decide (t101 ≥ 0)))
theorem slices_Contains_int_int.calls (k:Nat) (A0:Option Addr) (c0:Nat) (l0:List Int) (a1:Int) (r:Bool) (w:World) (hr0:Kd.C (Kd.int .i64) w A0 l0.length l0) (hc0:l0.length≤c0) (H:slices_Contains_int_int.f k l0 a1=some r) :
  Calls Tryz.prog 175 #[.slice A0 l0.length c0,.int .i64 a1] w fun e w'=>e = .returned (.bool r)∧Drawn0 w w':=by
 have HR0:=aM hr0
 have HC0:=aM hc0
 clear hr0 hc0
 unfold slices_Contains_int_int.f at H
 replace H:=bE H;obtain⟨t101,A3,H⟩:=H
 obtain rfl:=sI H
 go_enter Tryz.func175,Tryz.ntmps175
 go_wp2_with (refine gD 209 7 Tryz.func209 (slices_Index_int_int.calls _ _ _ _ _ _ _ (cX HR0.out) HC0.out A3.out) ?_;intro nd)
 go_ret
 exact⟨by first | rfl | (simp;done) | (simp[*];done),dX⟩
def Xai.f (a0_0:Int) (a0_1:Int) (a0_2:Int) (a0_3:Int) (a0_4:Int) (a0_5:Int) (a0_6:Int) (a0_7:Int) (l0_8:List Int) (a1:Int) (l2_0:List (S140)) (l2_1:List (S162)) (l2_2:List (S97)) (a2_3:Int) (l2_4:List (S73)) (l2_5:List Int) (l2_6:List Int) (a2_7:Int):Option (Bool):=if a1=(-1) then (some true) else ((Xd.f a1 a0_4 a2_3).bind fun t102=>(some t102))
theorem Xai.calls (a0_0:Int) (a0_1:Int) (a0_2:Int) (a0_3:Int) (a0_4:Int) (a0_5:Int) (a0_6:Int) (a0_7:Int) (A0_8:Option Addr) (c0_8:Nat) (l0_8:List Int) (a1:Int) (gc2:Nat) (A2_0:Option Addr) (c2_0:Nat) (l2_0:List (S140)) (A2_1:Option Addr) (c2_1:Nat) (l2_1:List (S162)) (A2_2:Option Addr) (c2_2:Nat) (l2_2:List (S97)) (a2_3:Int) (A2_4:Option Addr) (c2_4:Nat) (l2_4:List (S73)) (A2_5:Option Addr) (c2_5:Nat) (l2_5:List Int) (A2_6:Option Addr) (c2_6:Nat) (l2_6:List Int) (a2_7:Int) (r:Bool) (w:World) (h0_8:Rw (Kd.int .i64) w A0_8 c0_8 l0_8) (h2_0:Rw k140 w A2_0 c2_0 l2_0) (h2_1:Rw k162 w A2_1 c2_1 l2_1) (h2_2:Rw k97 w A2_2 c2_2 l2_2) (h2_4:Rw k73 w A2_4 c2_4 l2_4) (h2_5:Rw (Kd.int .i64) w A2_5 c2_5 l2_5) (h2_6:Rw (Kd.int .i64) w A2_6 c2_6 l2_6) (hbc2:w.heap[gc2]? = some (.cells #[.slice A2_0 l2_0.length c2_0,.slice A2_1 l2_1.length c2_1,.slice A2_2 l2_2.length c2_2,.int .i64 a2_3,.slice A2_4 l2_4.length c2_4,.slice A2_5 l2_5.length c2_5,.slice A2_6 l2_6.length c2_6,.int .i64 a2_7] 43 (0,0))) (H:Xai.f a0_0 a0_1 a0_2 a0_3 a0_4 a0_5 a0_6 a0_7 l0_8 a1 l2_0 l2_1 l2_2 a2_3 l2_4 l2_5 l2_6 a2_7=some r) :
  Calls Tryz.prog 104 #[.agg #[.int .i64 a0_0,.int .i64 a0_1,.int .i64 a0_2,.int .i64 a0_3,.int .i64 a0_4,.int .i64 a0_5,.int .i64 a0_6,.int .i64 a0_7,.slice A0_8 l0_8.length c0_8],.int .i64 a1,.pointer (some ⟨gc2,0,none⟩)] w fun e w'=>e = .returned (.bool r)∧Below w.heap.size w w':=by
 have hu73:=Tryz.underlying73
 obtain⟨HR0_8,HC0_8⟩:=h0_8
 obtain⟨HR2_0,HC2_0⟩:=h2_0
 obtain⟨HR2_1,HC2_1⟩:=h2_1
 obtain⟨HR2_2,HC2_2⟩:=h2_2
 obtain⟨HR2_4,HC2_4⟩:=h2_4
 obtain⟨HR2_5,HC2_5⟩:=h2_5
 obtain⟨HR2_6,HC2_6⟩:=h2_6
 have BKz1:=aM hbc2
 clear hbc2
 have HB:=aM (Below.refl w.heap.size w)
 unfold Xai.f at H
 revert H;refine eP ?_ ?_<;>intro c4b0 c4b1 H
 ·obtain rfl:=sI H
  go_enter Tryz.func104,Tryz.ntmps104
  go_wp2_with (refine boxE 3 #[.int .i64 a0_0,.int .i64 a0_1,.int .i64 a0_2,.int .i64 a0_3,.int .i64 a0_4,.int .i64 a0_5,.int .i64 a0_6,.int .i64 a0_7,.slice A0_8 l0_8.length c0_8] 73 ?_;intro gbz1 hg wz1 hbox hb;have BKz2:=aM (hbox);have GWz1:=aG hg HB;have GEz1:=aG hg HB;have NBz1:=aL hg BKz1;have NBz2:=aR hg BKz1;replace BKz1:=aB BKz1 hb;replace HB:=aS HB hb;clear hb hbox hg)
  go_ret
  exact⟨rE,(hX HB.out)⟩
 replace H:=bE H;obtain⟨tz1,Az1,H⟩:=H
 obtain rfl:=sI H
 go_enter Tryz.func104,Tryz.ntmps104
 go_wp2_with (first | (refine boxE 3 #[.int .i64 a0_0,.int .i64 a0_1,.int .i64 a0_2,.int .i64 a0_3,.int .i64 a0_4,.int .i64 a0_5,.int .i64 a0_6,.int .i64 a0_7,.slice A0_8 l0_8.length c0_8] 73 ?_;intro gbz1 hg wz2 hbox hb;have BKz2:=aM (hbox);have GWz1:=aG hg HB;have GEz1:=aG hg HB;have NBz1:=aL hg BKz1;have NBz2:=aR hg BKz1;replace BKz1:=aB BKz1 hb;replace HB:=aS HB hb;clear hb hbox hg;have hnbz1:=nB NBz2 NBz1;have hczz1:=cZ9 BKz2.out;have hczz10:=cZ8 BKz1.out) | (go_at_call 102;(with_reducible refine(Xd.calls a1 a0_4 a2_3 tz1 _ Az1.out).mono ?_);rintro e w' ⟨rfl,⟨nd,rfl⟩⟩))
 go_ret
 exact⟨rE,(hX HB.out)⟩
def XaP.f (a0:Int):Option (Bool):=(Xd.f a0 0 3).bind fun t101=>(some t101)
theorem XaP.calls (a0:Int) (r:Bool) (w:World) (H:XaP.f a0=some r) :
  Calls Tryz.prog 176 #[.int .i64 a0] w fun e w'=>e = .returned (.bool r)∧Drawn0 w w':=by
 unfold XaP.f at H
 replace H:=bE H;obtain⟨t101,A2,H⟩:=H
 obtain rfl:=sI H
 go_enter Tryz.func176,Tryz.ntmps176
 go_wp2_with (refine gD 102 4 Tryz.func102 (Xd.calls _ _ _ _ _ A2.out) ?_;intro nd)
 go_ret
 exact⟨by first | rfl | (simp;done) | (simp[*];done),dX⟩
def Xa3.f (a0:Int):Option (Bool):=(Xd.f a0 0 2).bind fun t101=>(some t101)
theorem Xa3.calls (a0:Int) (r:Bool) (w:World) (H:Xa3.f a0=some r) :
  Calls Tryz.prog 177 #[.int .i64 a0] w fun e w'=>e = .returned (.bool r)∧Drawn0 w w':=by
 unfold Xa3.f at H
 replace H:=bE H;obtain⟨t101,A2,H⟩:=H
 obtain rfl:=sI H
 go_enter Tryz.func177,Tryz.ntmps177
 go_wp2_with (refine gD 102 4 Tryz.func102 (Xd.calls _ _ _ _ _ A2.out) ?_;intro nd)
 go_ret
 exact⟨by first | rfl | (simp;done) | (simp[*];done),dX⟩
def XaA.f (a0_0:Int) (a0_1:Int) (a0_2:Int) (a0_3:Int) (a1:Int):Option (Bool):=(Xd.f a0_0 0 (wrap64 (a1 - 1))).bind fun t102=>(if t102=true then ((Xd.f a0_1 1 1000000).bind fun t103=>(if t103=true then ((Xd.f a0_2 0 20).bind fun t104=>(if t104=true then ((Xd.f a0_3 0 20).bind fun t105=>(some (!t105))) else (some true))) else (some true))) else (some true))
theorem XaA.calls (a0_0:Int) (a0_1:Int) (a0_2:Int) (a0_3:Int) (gc1:Nat) (a1:Int) (r:Bool) (w:World) (hbc1:w.heap[gc1]? = some (.cells #[.int .i64 a1] 3 (0,0))) (H:XaA.f a0_0 a0_1 a0_2 a0_3 a1=some r) :
  Calls Tryz.prog 185 #[.agg #[.int .i64 a0_0,.int .i64 a0_1,.int .i64 a0_2,.int .i64 a0_3],.pointer (some ⟨gc1,0,none⟩)] w fun e w'=>e = .returned (.bool r)∧Below w.heap.size w w':=by
 have hu174:=Tryz.underlying174
 have BKz1:=aM hbc1
 clear hbc1
 have HB:=aM (Below.refl w.heap.size w)
 unfold XaA.f at H
 replace H:=bE H;obtain⟨tz1,Az1,H⟩:=H
 cases tz1
 case false =>
  rw[if_neg nft] at H
  obtain rfl:=sI H
  go_enter Tryz.func185,Tryz.ntmps185
  go_wp2_with (first | (refine boxE 2 #[.int .i64 a0_0,.int .i64 a0_1,.int .i64 a0_2,.int .i64 a0_3] 174 ?_;intro gbz1 hg wz4 hbox hb;have BKz2:=aM (hbox);have GWz1:=aG hg HB;have GEz1:=aG hg HB;have NBz1:=aL hg BKz1;have NBz2:=aR hg BKz1;replace BKz1:=aB BKz1 hb;replace HB:=aS HB hb;clear hb hbox hg;have hnbz4:=nB NBz2 NBz1;have hczz16:=cZ4 BKz2.out;have hczz20:=cZ1 BKz1.out) | (refine gD 102 8 Tryz.func102 (Xd.calls a0_0 0 (wrap64 (a1 - 1)) false _ Az1.out) ?_;intro nd))
  go_ret
  exact⟨rE,(hX HB.out)⟩
 rw[if_pos rfl] at H
 replace H:=bE H;obtain⟨tz2,Az2,H⟩:=H
 cases tz2
 case false =>
  rw[if_neg nft] at H
  obtain rfl:=sI H
  go_enter Tryz.func185,Tryz.ntmps185
  go_wp2_with (first | (refine boxE 2 #[.int .i64 a0_0,.int .i64 a0_1,.int .i64 a0_2,.int .i64 a0_3] 174 ?_;intro gbz1 hg wz3 hbox hb;have BKz2:=aM (hbox);have GWz1:=aG hg HB;have GEz1:=aG hg HB;have NBz1:=aL hg BKz1;have NBz2:=aR hg BKz1;replace BKz1:=aB BKz1 hb;replace HB:=aS HB hb;clear hb hbox hg;have hnbz3:=nB NBz2 NBz1;have hczz11:=cZ4 BKz2.out;have hczz15:=cZ1 BKz1.out) | (refine gD 102 8 Tryz.func102 (Xd.calls a0_0 0 (wrap64 (a1 - 1)) true _ Az1.out) ?_;intro nd) | (go_at_call 102;(with_reducible refine(Xd.calls a0_1 1 1000000 false _ Az2.out).mono ?_);rintro e w' ⟨rfl,⟨nd,rfl⟩⟩))
  go_ret
  exact⟨rE,(hX HB.out)⟩
 rw[if_pos rfl] at H
 replace H:=bE H;obtain⟨tz3,Az3,H⟩:=H
 cases tz3
 case false =>
  rw[if_neg nft] at H
  obtain rfl:=sI H
  go_enter Tryz.func185,Tryz.ntmps185
  go_wp2_with (first | (refine boxE 2 #[.int .i64 a0_0,.int .i64 a0_1,.int .i64 a0_2,.int .i64 a0_3] 174 ?_;intro gbz1 hg wz2 hbox hb;have BKz2:=aM (hbox);have GWz1:=aG hg HB;have GEz1:=aG hg HB;have NBz1:=aL hg BKz1;have NBz2:=aR hg BKz1;replace BKz1:=aB BKz1 hb;replace HB:=aS HB hb;clear hb hbox hg;have hnbz2:=nB NBz2 NBz1;have hczz6:=cZ4 BKz2.out;have hczz10:=cZ1 BKz1.out) | (refine gD 102 8 Tryz.func102 (Xd.calls a0_0 0 (wrap64 (a1 - 1)) true _ Az1.out) ?_;intro nd) | (go_at_call 102;(with_reducible refine(Xd.calls a0_1 1 1000000 true _ Az2.out).mono ?_);rintro e w' ⟨rfl,⟨nd,rfl⟩⟩) | (go_at_call 102;(with_reducible refine(Xd.calls a0_2 0 20 false _ Az3.out).mono ?_);rintro e w' ⟨rfl,⟨nd,rfl⟩⟩))
  go_ret
  exact⟨rE,(hX HB.out)⟩
 rw[if_pos rfl] at H
 replace H:=bE H;obtain⟨tz4,Az4,H⟩:=H
 obtain rfl:=sI H
 go_enter Tryz.func185,Tryz.ntmps185
 go_wp2_with (first | (refine boxE 2 #[.int .i64 a0_0,.int .i64 a0_1,.int .i64 a0_2,.int .i64 a0_3] 174 ?_;intro gbz1 hg wz1 hbox hb;have BKz2:=aM (hbox);have GWz1:=aG hg HB;have GEz1:=aG hg HB;have NBz1:=aL hg BKz1;have NBz2:=aR hg BKz1;replace BKz1:=aB BKz1 hb;replace HB:=aS HB hb;clear hb hbox hg;have hnbz1:=nB NBz2 NBz1;have hczz1:=cZ4 BKz2.out;have hczz5:=cZ1 BKz1.out) | (refine gD 102 8 Tryz.func102 (Xd.calls a0_0 0 (wrap64 (a1 - 1)) true _ Az1.out) ?_;intro nd) | (go_at_call 102;(with_reducible refine(Xd.calls a0_1 1 1000000 true _ Az2.out).mono ?_);rintro e w' ⟨rfl,⟨nd,rfl⟩⟩) | (go_at_call 102;(with_reducible refine(Xd.calls a0_2 0 20 true _ Az3.out).mono ?_);rintro e w' ⟨rfl,⟨nd,rfl⟩⟩) | (go_at_call 102;(with_reducible refine(Xd.calls a0_3 0 20 tz4 _ Az4.out).mono ?_);rintro e w' ⟨rfl,⟨nd,rfl⟩⟩))
 go_ret
 exact⟨rE,(hX HB.out)⟩
end Go.Proofs.YtmljebgideecjaaGreat.P2
