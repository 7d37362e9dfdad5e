/- A part of the proof of the law FnExactJudgeWords: texts of this seat, merged (words, printed functions of the program, plain lemmas). Conditions: none of its own. -/
import Derived.Test.YtmljebgideecjaaGreatP2kFnExactJudgeWords11
set_option linter.unusedSimpArgs false
set_option linter.unusedVariables false
set_option maxHeartbeats 8000000
set_option maxRecDepth 100000
namespace Go.Proofs.YtmljebgideecjaaGreat.P2
open Go.Proofs.YtmljebgideecjaaGreatZ Go.RowKit Go.Proofs.YtmljebgideecjaaGreatW.PrintWords Go.Proofs.YtmljebgideecjaaGreatW.PrintLast Go.Proofs.YtmljebgideecjaaGreatW.PrintMore
attribute [local go_sem] max2_int min2_int max_two min_two max_three min_three max_four min_four   -- for this text's walks alone
attribute [local go_sem high] eqA69
def XO.l0:Nat→Int→Int→Int→Int→List (S140)→List (S162)→List (S97)→Int→List (S73)→List Int→List Int→Int→List (S69)→Int→Bool→List (S172)→List (S174)→Option (Bool)
 | 0,_,_,_,_,_,_,_,_,_,_,_,_,_,_,_,_,_=>none
 | k+1,x1,x6,x7,x8,x102000,x102001,x102002,x102003,x102004,x102005,x102006,x102007,x104000,x104001,x104002,x104003,x104004=>if x8<(x102004.length:Int) then (if 0≤x8 then (if ((rd_T73 x102004 x8).f0)=x1 then (if ((rd_T73 x102004 x8).f4) ≥ 0 then (XO.l0 k x1 x6 (wrap64 (x7+1)) (wrap64 (x8+1)) x102000 x102001 x102002 x102003 x102004 x102005 x102006 x102007 x104000 x104001 x104002 x104003 x104004) else (if x104002=true then (if x8=x6 then (XO.l0 k x1 x6 x7 (wrap64 (x8+1)) x102000 x102001 x102002 x102003 x102004 x102005 x102006 x102007 x104000 x104001 x104002 x104003 x104004) else (some false)) else (some false))) else (XO.l0 k x1 x6 x7 (wrap64 (x8+1)) x102000 x102001 x102002 x102003 x102004 x102005 x102006 x102007 x104000 x104001 x104002 x104003 x104004)) else (none)) else (if x7=x104001 then (if x104002=true then (if x6 ≥ 0 then (if 0≤x6 then (if x6<(x102004.length:Int) then (if ((rd_T73 x102004 x6).f4)=(-1) then (if 0≤x104001 then (if x104001<(x104000.length:Int) then (some (((rd_T73 x102004 x6).f1.f0) == ((rd_T69 x104000 x104001).f0) && (((rd_T73 x102004 x6).f1.f1) == ((rd_T69 x104000 x104001).f1) && (((rd_T73 x102004 x6).f1.f2) == ((rd_T69 x104000 x104001).f2))))) else (none)) else (none)) else (some false)) else (none)) else (none)) else (some false)) else (some true)) else (some false))
def XO.f (k:Nat) (l0_0:List (S140)) (l0_1:List (S162)) (l0_2:List (S97)) (a0_3:Int) (l0_4:List (S73)) (l0_5:List Int) (l0_6:List Int) (a0_7:Int) (a1:Int):Option (Bool):=if 0≤a1 then (if a1<(l0_2.length:Int) then ((Xai.f k l0_0 l0_1 l0_2 a0_3 l0_4 l0_5 l0_6 a0_7 a1).bind fun t104=>(XO.l0 k a1 t104 0 0 l0_0 l0_1 l0_2 a0_3 l0_4 l0_5 l0_6 a0_7 ((rd_T97 l0_2 a1).f0) ((rd_T97 l0_2 a1).f1) ((rd_T97 l0_2 a1).f2) ((rd_T97 l0_2 a1).f3) ((rd_T97 l0_2 a1).f4))) else (none)) else (none)
theorem XO.calls (k:Nat) (A0_0:Option Addr) (c0_0:Nat) (l0_0:List (S140)) (A0_1:Option Addr) (c0_1:Nat) (l0_1:List (S162)) (A0_2:Option Addr) (c0_2:Nat) (l0_2:List (S97)) (a0_3:Int) (A0_4:Option Addr) (c0_4:Nat) (l0_4:List (S73)) (A0_5:Option Addr) (c0_5:Nat) (l0_5:List Int) (A0_6:Option Addr) (c0_6:Nat) (l0_6:List Int) (a0_7:Int) (a1:Int) (r:Bool) (w:World) (h0_0:Rw k140 w A0_0 c0_0 l0_0) (h0_1:Rw k162 w A0_1 c0_1 l0_1) (h0_2:Rw k97 w A0_2 c0_2 l0_2) (h0_4:Rw k73 w A0_4 c0_4 l0_4) (h0_5:Rw (Kd.int .i64) w A0_5 c0_5 l0_5) (h0_6:Rw (Kd.int .i64) w A0_6 c0_6 l0_6) (H:XO.f k l0_0 l0_1 l0_2 a0_3 l0_4 l0_5 l0_6 a0_7 a1=some r) :
  Calls Tryz.prog 96 #[.agg #[.slice A0_0 l0_0.length c0_0,.slice A0_1 l0_1.length c0_1,.slice A0_2 l0_2.length c0_2,.int .i64 a0_3,.slice A0_4 l0_4.length c0_4,.slice A0_5 l0_5.length c0_5,.slice A0_6 l0_6.length c0_6,.int .i64 a0_7],.int .i64 a1] w fun e w'=>e = .returned (.bool r)∧Below w.heap.size w w':=by
 have hu43:=Tryz.underlying43
 have hu97:=Tryz.underlying97
 have hu69:=Tryz.underlying69
 obtain⟨HR0_0,HC0_0⟩:=h0_0
 obtain⟨HR0_1,HC0_1⟩:=h0_1
 obtain⟨HR0_2,HC0_2⟩:=h0_2
 obtain⟨HR0_4,HC0_4⟩:=h0_4
 obtain⟨HR0_5,HC0_5⟩:=h0_5
 obtain⟨HR0_6,HC0_6⟩:=h0_6
 have HB:=aM (Below.refl w.heap.size w)
 unfold XO.f at H
 replace H:=ifQ H;obtain⟨c3b0,H⟩:=H
 replace H:=ifQ H;obtain⟨c4b0,H⟩:=H
 replace H:=bE H;obtain⟨t104,A5,H⟩:=H
 have H':=aM H
 clear H
 go_enter Tryz.func96,Tryz.ntmps96
 go_wp2_with (first | (refine boxE 2 #[.slice A0_0 l0_0.length c0_0,.slice A0_1 l0_1.length c0_1,.slice A0_2 l0_2.length c0_2,.int .i64 a0_3,.slice A0_4 l0_4.length c0_4,.slice A0_5 l0_5.length c0_5,.slice A0_6 l0_6.length c0_6,.int .i64 a0_7] 43 ?_;intro gbz1 hg wz1 hbox hb;have BKz1:=aM (hbox);have GWz1:=aG hg HB;have GEz1:=aG hg HB;replace HB:=aS HB hb;clear hb hbox hg;have hczz1:=cZ8 BKz1.out;have pz1:0≤(a1:Int):=odA;have qz1:a1<(l0_2.length:Int):=odA;obtain⟨adz1,Az1,cz1,Az2,cz2,Az3,cz3,ez1,hxz1,hxz2,hxz3,hxz4,hxz5,hlz1,hiz1,hlz2,hiz2,hlz3,hiz3⟩:=at_T97 HR0_2.out a1 pz1 qz1;cases ez1;replace hxz1:=bc HB.out hxz1;replace hxz2:=bc HB.out hxz2;replace hxz3:=bc HB.out hxz3;replace hxz4:=bc HB.out hxz4;replace hxz5:=bc HB.out hxz5;have HRz1:=aM hiz1;have HCz1:=aM hlz1;clear hiz1 hlz1;have HRz2:=aM hiz2;have HCz2:=aM hlz2;clear hiz2 hlz2;have HRz3:=aM hiz3;have HCz3:=aM hlz3;clear hiz3 hlz3;replace pz1:=eq_true pz1;replace qz1:=eq_true qz1) | (refine boxE 5 #[.slice none 0 0,.int .i64 0,.bool false,.slice none 0 0,.slice none 0 0] 97 ?_;intro gbz2 hg wz2 hbox hb;have BKz2:=aM (hbox);have GWz2:=aG hg HB;have GEz2:=aG hg HB;have NBz1:=aL hg BKz1;have NBz2:=aR hg BKz1;replace BKz1:=aB BKz1 hb;replace HB:=aS HB hb;clear hb hbox hg;have hnbz1:=NBz2.out;have hncz1:=NBz1.out;have hczz9:=cZ5 BKz2.out;have hczz14:=cZ8 BKz1.out) | (go_at_call 163;(with_reducible refine(Xai.calls _ _ _ _ _ _ _ _ _ _ _ _ _ _ _ _ _ _ _ _ _ _ _ _ (rW HR0_0 HB HC0_0) (rW HR0_1 HB HC0_1) (rW HR0_2 HB HC0_2) (rW HR0_4 HB HC0_4) (rW HR0_5 HB HC0_5) (rW HR0_6 HB HC0_6) A5.out).mono ?_);rintro e wz3 ⟨rfl,hb⟩;replace BKz1:=aF BKz1 hb;replace BKz2:=aM (blk_below (g:=gbz2) (o:=.cells #[.slice Az1 ((rd_T97 l0_2 a1).f0).length cz1,.int .i64 ((rd_T97 l0_2 a1).f1),.bool ((rd_T97 l0_2 a1).f2),.slice Az2 ((rd_T97 l0_2 a1).f3).length cz2,.slice Az3 ((rd_T97 l0_2 a1).f4).length cz3] 97 (0,0)) (bP BKz2.out) hb);replace HB:=aS HB hb;clear hb))
 repeat (go_quiet (fail);try go_wp2_with (first | ((with_reducible refine gate_dst (N:=2) rfl ?_);refine boxF 2 #[.slice A0_0 l0_0.length c0_0,.slice A0_1 l0_1.length c0_1,.slice A0_2 l0_2.length c0_2,.int .i64 a0_3,.slice A0_4 l0_4.length c0_4,.slice A0_5 l0_5.length c0_5,.slice A0_6 l0_6.length c0_6,.int .i64 a0_7] 43 ?_;intro gbz1 hg wz1 hbox hb;have BKz1:=aM (hbox);have GWz1:=aG hg HB;have GEz1:=aG hg HB;replace HB:=aS HB hb;clear hb hbox hg;have hczz1:=cZ8 BKz1.out;have pz1:0≤(a1:Int):=odA;have qz1:a1<(l0_2.length:Int):=odA;obtain⟨adz1,Az1,cz1,Az2,cz2,Az3,cz3,ez1,hxz1,hxz2,hxz3,hxz4,hxz5,hlz1,hiz1,hlz2,hiz2,hlz3,hiz3⟩:=at_T97 HR0_2.out a1 pz1 qz1;cases ez1;replace hxz1:=bc HB.out hxz1;replace hxz2:=bc HB.out hxz2;replace hxz3:=bc HB.out hxz3;replace hxz4:=bc HB.out hxz4;replace hxz5:=bc HB.out hxz5;have HRz1:=aM hiz1;have HCz1:=aM hlz1;clear hiz1 hlz1;have HRz2:=aM hiz2;have HCz2:=aM hlz2;clear hiz2 hlz2;have HRz3:=aM hiz3;have HCz3:=aM hlz3;clear hiz3 hlz3;replace pz1:=eq_true pz1;replace qz1:=eq_true qz1) | ((with_reducible refine gate_dst (N:=5) rfl ?_);refine boxF 5 #[.slice none 0 0,.int .i64 0,.bool false,.slice none 0 0,.slice none 0 0] 97 ?_;intro gbz2 hg wz2 hbox hb;have BKz2:=aM (hbox);have GWz2:=aG hg HB;have GEz2:=aG hg HB;have NBz1:=aL hg BKz1;have NBz2:=aR hg BKz1;replace BKz1:=aB BKz1 hb;replace HB:=aS HB hb;clear hb hbox hg;have hnbz1:=NBz2.out;have hncz1:=NBz1.out;have hczz9:=cZ5 BKz2.out;have hczz14:=cZ8 BKz1.out) | (go_at_call 163;(with_reducible refine(Xai.calls _ _ _ _ _ _ _ _ _ _ _ _ _ _ _ _ _ _ _ _ _ _ _ _ (rW HR0_0 HB HC0_0) (rW HR0_1 HB HC0_1) (rW HR0_2 HB HC0_2) (rW HR0_4 HB HC0_4) (rW HR0_5 HB HC0_5) (rW HR0_6 HB HC0_6) A5.out).mono ?_);rintro e wz3 ⟨rfl,hb⟩;replace BKz1:=aF BKz1 hb;replace BKz2:=aM (blk_below (g:=gbz2) (o:=.cells #[.slice Az1 ((rd_T97 l0_2 a1).f0).length cz1,.int .i64 ((rd_T97 l0_2 a1).f1),.bool ((rd_T97 l0_2 a1).f2),.slice Az2 ((rd_T97 l0_2 a1).f3).length cz2,.slice Az3 ((rd_T97 l0_2 a1).f4).length cz3] 97 (0,0)) (bP BKz2.out) hb);replace HB:=aS HB hb;clear hb)))
 go_loopg [7,8] k (fun kq v7 v8 w'=>∃ (x7_1:Int) (x8_1:Int),v7 = .int .i64 x7_1∧v8 = .int .i64 x8_1∧Aside0 (XO.l0 kq a1 t104 x7_1 x8_1 l0_0 l0_1 l0_2 a0_3 l0_4 l0_5 l0_6 a0_7 ((rd_T97 l0_2 a1).f0) ((rd_T97 l0_2 a1).f1) ((rd_T97 l0_2 a1).f2) ((rd_T97 l0_2 a1).f3) ((rd_T97 l0_2 a1).f4)=some r)∧Aside0 (kq≤k)∧Aside0 (w'.heap[gbz1]? = some (.cells #[(.slice A0_0 l0_0.length c0_0),(.slice A0_1 l0_1.length c0_1),(.slice (some adz1) l0_2.length c0_2),.int .i64 a0_3,(.slice A0_4 l0_4.length c0_4),(.slice A0_5 l0_5.length c0_5),(.slice A0_6 l0_6.length c0_6),.int .i64 a0_7] 43 (0,0)))∧Aside0 (w'.heap[gbz2]? = some (.cells #[(.slice Az1 ((rd_T97 l0_2 a1).f0).length cz1),.int .i64 ((rd_T97 l0_2 a1).f1),.bool ((rd_T97 l0_2 a1).f2),(.slice Az2 ((rd_T97 l0_2 a1).f3).length cz2),(.slice Az3 ((rd_T97 l0_2 a1).f4).length cz3)] 97 (0,0)))∧Aside0 (Below w.heap.size w w'))
 case atStart=>exact⟨(0),(0),rS,rS,H',⟨Nat.le_refl _⟩,⟨(bX BKz1.out)⟩,⟨(bX BKz2.out)⟩,⟨(hX HB.out)⟩⟩
 case round =>
  clear H'
  try clear c3b0
  try clear c4b0
  try clear hczz9
  try clear hczz14
  try clear hczz1
  try clear hxz1
  try clear hxz2
  try clear hxz3
  try clear hxz4
  try clear hxz5
  try clear pz1
  try clear qz1
  obtain⟨x7_1,x8_1,rfl,rfl,HA,HKy1,BKz1,BKz2,HB⟩:=hrel
  cases gk with
  | zero=>exact absurd HA.out (by simp[XO.l0])
  | succ k1 =>
   have H:=HA.out
   clear HA
   simp only[XO.l0] at H
   revert H;refine iN ?_ ?_<;>intro c13b0 H
   ·revert H;refine eN ?_ ?_<;>intro c32b0 c32b1 H
    ·obtain rfl:=sI H
     have hnbx1:=NBz1.out
     have hncx1:=NBz2.out
     have hczx1:=cZ8 BKz1.out
     have hczx9:=cZ5 BKz2.out
     go_wp2
     repeat (go_quiet (fail);try go_wp2)
     go_ret
     exact⟨rE,(hX HB.out)⟩
    by_cases c33:((rd_T97 l0_2 a1).f2)=true
    case neg =>
     rw[if_neg c33] at H
     have c33b0:((rd_T97 l0_2 a1).f2)=false:=by simpa using c33
     clear c33
     obtain rfl:=sI H
     have hnbx1:=NBz1.out
     have hncx1:=NBz2.out
     have hczx1:=cZ8 BKz1.out
     have hczx9:=cZ5 BKz2.out
     go_wp2
     repeat (go_quiet (fail);try go_wp2)
     go_ret
     exact⟨rE,(hX HB.out)⟩
    rw[if_pos c33] at H
    have c33b0:((rd_T97 l0_2 a1).f2)=true:=c33
    clear c33
    revert H;refine iN ?_ ?_<;>intro c34b0 H
    ·obtain rfl:=sI H
     have hnbx1:=NBz1.out
     have hncx1:=NBz2.out
     have hczx1:=cZ8 BKz1.out
     have hczx9:=cZ5 BKz2.out
     go_wp2
     repeat (go_quiet (fail);try go_wp2)
     go_ret
     exact⟨rE,(hX HB.out)⟩
    replace H:=ifQ H;obtain⟨c35b0,H⟩:=H
    replace H:=ifQ H;obtain⟨c36b0,H⟩:=H
    revert H;refine eN ?_ ?_<;>intro c37b0 c37b1 H
    ·obtain rfl:=sI H
     have hnbx1:=NBz1.out
     have hncx1:=NBz2.out
     have hczx1:=cZ8 BKz1.out
     have hczx9:=cZ5 BKz2.out
     obtain⟨adx1,Ax1,cx1,ex1,px1,qx1,hxx1,HCx1,HRx1⟩:=at_T73c HR0_4 HB t104
     cases ex1
     go_wp2
     repeat (go_quiet (fail);try go_wp2)
     go_ret
     exact⟨rE,(hX HB.out)⟩
    replace H:=ifQ H;obtain⟨c38b0,H⟩:=H
    replace H:=ifQ H;obtain⟨c39b0,H⟩:=H
    obtain rfl:=sI H
    have hnbx1:=NBz1.out
    have hncx1:=NBz2.out
    have hczx1:=cZ8 BKz1.out
    have hczx9:=cZ5 BKz2.out
    obtain⟨adx1,Ax1,cx1,ex1,px1,qx1,⟨hxx1,hxx2,hxx3,hxx4,hxx5,hxx6,hxx7,hxx8,hxx9⟩,HCx1,HRx1⟩:=at_T73c HR0_4 HB t104
    cases ex1
    obtain⟨adx2,Ax2,cx2,ex2,px2,qx2,⟨hxx10,hxx11,hxx12,hxx13,hxx14,hxx15,hxx16,hxx17,hxx18⟩,HCx2,HRx2⟩:=at_T73c HR0_4 HB t104
    obtain rfl:adx1=adx2:=(by injection ex2)
    have ea_:=Option.some.inj (hxx9.symm.trans hxx18)
    injection ea_ with ea_ en_ ec_
    subst ea_
    subst ec_
    clear en_
    obtain⟨adx3,ex3,px3,qx3,hxx19⟩:=at_T69c HRz1 HB ((rd_T97 l0_2 a1).f1)
    cases ex3
    go_wp2
    repeat (go_quiet (fail);try go_wp2)
    go_ret
    exact⟨rE,(hX HB.out)⟩
   replace H:=ifQ H;obtain⟨c14b0,H⟩:=H
   revert H;refine eN ?_ ?_<;>intro c15b0 c15b1 H
   ·have H':=aM H
    clear H
    have hnbx1:=NBz1.out
    have hncx1:=NBz2.out
    have hczx1:=cZ8 BKz1.out
    obtain⟨adx1,Ax1,cx1,ex1,px1,qx1,hxx1,HCx1,HRx1⟩:=at_T73c HR0_4 HB x8_1
    cases ex1
    go_wp2
    repeat (go_quiet (fail);try go_wp2)
    go_roundg k1
    case measure=>have:=HKy1.out;omega
    case rel=>exact⟨(x7_1),(wrap64 (x8_1+1)),rS,rS,H',⟨by have:=HKy1.out;omega⟩,⟨(bX BKz1.out)⟩,⟨(bX BKz2.out)⟩,⟨(hX HB.out)⟩⟩
   revert H;refine iP ?_ ?_<;>intro c16b0 H
   ·have H':=aM H
    clear H
    have hnbx1:=NBz1.out
    have hncx1:=NBz2.out
    have hczx1:=cZ8 BKz1.out
    obtain⟨adx1,Ax1,cx1,ex1,px1,qx1,⟨hxx1,hxx2,hxx3,hxx4,hxx5,hxx6,hxx7,hxx8,hxx9⟩,HCx1,HRx1⟩:=at_T73c HR0_4 HB x8_1
    cases ex1
    obtain⟨adx2,Ax2,cx2,ex2,px2,qx2,⟨hxx10,hxx11,hxx12,hxx13,hxx14,hxx15,hxx16,hxx17,hxx18⟩,HCx2,HRx2⟩:=at_T73c HR0_4 HB x8_1
    obtain rfl:adx1=adx2:=(by injection ex2)
    have ea_:=Option.some.inj (hxx9.symm.trans hxx18)
    injection ea_ with ea_ en_ ec_
    subst ea_
    subst ec_
    clear en_
    go_wp2
    repeat (go_quiet (fail);try go_wp2)
    go_roundg k1
    case measure=>have:=HKy1.out;omega
    case rel=>exact⟨(wrap64 (x7_1+1)),(wrap64 (x8_1+1)),rS,rS,H',⟨by have:=HKy1.out;omega⟩,⟨(bX BKz1.out)⟩,⟨(bX BKz2.out)⟩,⟨(hX HB.out)⟩⟩
   by_cases c19:((rd_T97 l0_2 a1).f2)=true
   case neg =>
    rw[if_neg c19] at H
    have c19b0:((rd_T97 l0_2 a1).f2)=false:=by simpa using c19
    clear c19
    obtain rfl:=sI H
    have hnbx1:=NBz1.out
    have hncx1:=NBz2.out
    have hczx1:=cZ8 BKz1.out
    obtain⟨adx1,Ax1,cx1,ex1,px1,qx1,⟨hxx1,hxx2,hxx3,hxx4,hxx5,hxx6,hxx7,hxx8,hxx9⟩,HCx1,HRx1⟩:=at_T73c HR0_4 HB x8_1
    cases ex1
    obtain⟨adx2,Ax2,cx2,ex2,px2,qx2,⟨hxx10,hxx11,hxx12,hxx13,hxx14,hxx15,hxx16,hxx17,hxx18⟩,HCx2,HRx2⟩:=at_T73c HR0_4 HB x8_1
    obtain rfl:adx1=adx2:=(by injection ex2)
    have ea_:=Option.some.inj (hxx9.symm.trans hxx18)
    injection ea_ with ea_ en_ ec_
    subst ea_
    subst ec_
    clear en_
    have hczx9:=cZ5 BKz2.out
    go_wp2
    repeat (go_quiet (fail);try go_wp2)
    go_ret
    exact⟨rE,(hX HB.out)⟩
   rw[if_pos c19] at H
   have c19b0:((rd_T97 l0_2 a1).f2)=true:=c19
   clear c19
   revert H;refine eN ?_ ?_<;>intro c20b0 c20b1 H
   ·obtain rfl:=sI H
    have hnbx1:=NBz1.out
    have hncx1:=NBz2.out
    have hczx1:=cZ8 BKz1.out
    obtain⟨adx1,Ax1,cx1,ex1,px1,qx1,⟨hxx1,hxx2,hxx3,hxx4,hxx5,hxx6,hxx7,hxx8,hxx9⟩,HCx1,HRx1⟩:=at_T73c HR0_4 HB x8_1
    cases ex1
    obtain⟨adx2,Ax2,cx2,ex2,px2,qx2,⟨hxx10,hxx11,hxx12,hxx13,hxx14,hxx15,hxx16,hxx17,hxx18⟩,HCx2,HRx2⟩:=at_T73c HR0_4 HB x8_1
    obtain rfl:adx1=adx2:=(by injection ex2)
    have ea_:=Option.some.inj (hxx9.symm.trans hxx18)
    injection ea_ with ea_ en_ ec_
    subst ea_
    subst ec_
    clear en_
    have hczx9:=cZ5 BKz2.out
    go_wp2
    repeat (go_quiet (fail);try go_wp2)
    go_ret
    exact⟨rE,(hX HB.out)⟩
   have H':=aM H
   clear H
   have hnbx1:=NBz1.out
   have hncx1:=NBz2.out
   have hczx1:=cZ8 BKz1.out
   obtain⟨adx1,Ax1,cx1,ex1,px1,qx1,⟨hxx1,hxx2,hxx3,hxx4,hxx5,hxx6,hxx7,hxx8,hxx9⟩,HCx1,HRx1⟩:=at_T73c HR0_4 HB x8_1
   cases ex1
   obtain⟨adx2,Ax2,cx2,ex2,px2,qx2,⟨hxx10,hxx11,hxx12,hxx13,hxx14,hxx15,hxx16,hxx17,hxx18⟩,HCx2,HRx2⟩:=at_T73c HR0_4 HB x8_1
   obtain rfl:adx1=adx2:=(by injection ex2)
   have ea_:=Option.some.inj (hxx9.symm.trans hxx18)
   injection ea_ with ea_ en_ ec_
   subst ea_
   subst ec_
   clear en_
   have hczx9:=cZ5 BKz2.out
   generalize hvb_:Value.bool ((rd_T97 l0_2 a1).f2)=vb_
   have HVb_:=aM hvb_
   clear hvb_
   go_wp2
   repeat (go_quiet (fail);try go_wp2)
   have hvb_:=HVb_.out
   clear HVb_
   subst hvb_
   go_roundg k1
   case measure=>have:=HKy1.out;omega
   case rel=>exact⟨(x7_1),(wrap64 (x8_1+1)),rS,rS,H',⟨by have:=HKy1.out;omega⟩,⟨(bX BKz1.out)⟩,⟨(bX BKz2.out)⟩,⟨(hX HB.out)⟩⟩
end Go.Proofs.YtmljebgideecjaaGreat.P2
namespace Go.Proofs.YtmljebgideecjaaGreat.P2
open Go.Proofs.YtmljebgideecjaaGreatZ Go.RowKit Go.Proofs.YtmljebgideecjaaGreatW.PrintWords Go.Proofs.YtmljebgideecjaaGreatW.PrintLast Go.Proofs.YtmljebgideecjaaGreatW.PrintMore
attribute [local go_sem] max2_int min2_int max_two min_two max_three min_three max_four min_four   -- for this text's walks alone
def Xae.j0:Nat→Bool→Bool→Int→Bool→List Int→Int→Int→Int→Int→Option (Bool)
 | 0,_,_,_,_,_,_,_,_,_=>none
 | k+1,x7,x8,x48,x49,x102000,x102001,x103000,x103001,x103002=>if x49=true then (if 0≤x103001 then (if x103001<(x102000.length:Int) then (some ((rd x102000 x103001) == 0)) else (none)) else (none)) else (if x48=5 then (some (!x7)) else (if x48=10 then (if x8=true then (some (!x7)) else (some false)) else (some false)))
def Xae.f (k:Nat) (l0_0:List Int) (a0_1:Int) (a1_0:Int) (a1_1:Int) (a1_2:Int) (a2:Int):Option (Bool):=(Xp.f k l0_0 a0_1 a1_2).bind fun t103=>(if a2=1 then (if a1_0=1 then (if 0≤a1_1 then (if a1_1<(l0_0.length:Int) then (some ((rd l0_0 a1_1) != 0)) else (none)) else (none)) else (some false)) else (if a2=2 then (if a1_0=1 then (some (decide (t103 ≥ 0))) else (if a1_0=2 then (some (decide (t103 ≥ 0))) else (some false))) else (if a2=3 then (if a1_0=2 then (Xae.j0 k (decide (t103 ≥ 0)) (a0_1 == 5) a1_0 (a1_0 == 2) l0_0 a0_1 a1_0 a1_1 a1_2) else (if a1_0=3 then (Xae.j0 k (decide (t103 ≥ 0)) (a0_1 == 5) a1_0 (a1_0 == 3) l0_0 a0_1 a1_0 a1_1 a1_2) else (Xae.j0 k (decide (t103 ≥ 0)) (a0_1 == 5) a1_0 (a1_0 == 4) l0_0 a0_1 a1_0 a1_1 a1_2))) else (if a2=4 then (if a1_0=8 then (some (a0_1 != 0)) else (if a1_0=9 then (if a0_1=0 then (some true) else (some (a0_1 == 5))) else (if a1_0=10 then (some (!(a0_1 == 5))) else (some false)))) else (some false)))))
theorem Xae.calls (k:Nat) (A0_0:Option Addr) (c0_0:Nat) (l0_0:List Int) (a0_1:Int) (a1_0:Int) (a1_1:Int) (a1_2:Int) (a2:Int) (r:Bool) (w:World) (h0_0:Rw (Kd.int .i64) w A0_0 c0_0 l0_0) (H:Xae.f k l0_0 a0_1 a1_0 a1_1 a1_2 a2=some r) :
  Calls Tryz.prog 139 #[.agg #[.slice A0_0 l0_0.length c0_0,.int .i64 a0_1],.agg #[.int .i64 a1_0,.int .i64 a1_1,.int .i64 a1_2],.int .i64 a2] w fun e w'=>e = .returned (.bool r)∧Below w.heap.size w w':=by
 have hu41:=Tryz.underlying41
 have hu69:=Tryz.underlying69
 obtain⟨HR0_0,HC0_0⟩:=h0_0
 have HB:=aM (Below.refl w.heap.size w)
 unfold Xae.f at H
 replace H:=bE H;obtain⟨t103,A4,H⟩:=H
 go_enter Tryz.func139,Tryz.ntmps139
 revert H;refine eP ?_ ?_<;>intro c5b0 c5b1 H
 ·go_wp2_with (first | (refine boxE 3 #[.slice A0_0 l0_0.length c0_0,.int .i64 a0_1] 41 ?_;intro gbz1 hg wz1 hbox hb;have BKz1:=aM (hbox);have GWz1:=aG hg HB;have GEz1:=aG hg HB;replace HB:=aS HB hb;clear hb hbox hg) | (refine boxE 4 #[.int .i64 a1_0,.int .i64 a1_1,.int .i64 a1_2] 69 ?_;intro gbz2 hg wz2 hbox hb;have BKz2:=aM (hbox);have GWz2:=aG hg HB;have GEz2:=aG hg HB;have NBz1:=aL hg BKz1;have NBz2:=aR hg BKz1;replace BKz1:=aB BKz1 hb;replace HB:=aS HB hb;clear hb hbox hg;have hnbz1:=NBz1.out;have hncz1:=NBz2.out;have hczz1:=cZ2 BKz1.out;have hczz3:=cZ3 BKz2.out;refine Stop.out ?_))
  refine⟨?_⟩
  revert H;refine eN ?_ ?_<;>intro c6b0 c6b1 H
  ·obtain rfl:=sI H
   go_wp2_with (refine gB 160 12 Tryz.func160 (Xp.calls _ _ _ _ _ _ _ _ (rW HR0_0 HB HC0_0) A4.out) ?_;intro wz3 hb;replace BKz1:=aB BKz1 hb;replace BKz2:=aB BKz2 hb;replace HB:=aS HB hb;clear hb;have hczz6:=cZ2 BKz1.out;have hczz8:=cZ3 BKz2.out)
   go_ret
   exact⟨rE,(hX HB.out)⟩
  replace H:=ifQ H;obtain⟨c7b0,H⟩:=H
  replace H:=ifQ H;obtain⟨c8b0,H⟩:=H
  obtain rfl:=sI H
  go_wp2_with (refine gB 160 12 Tryz.func160 (Xp.calls _ _ _ _ _ _ _ _ (rW HR0_0 HB HC0_0) A4.out) ?_;intro wz3 hb;replace BKz1:=aB BKz1 hb;replace BKz2:=aB BKz2 hb;replace HB:=aS HB hb;clear hb;have hczz6:=cZ2 BKz1.out;have hczz8:=cZ3 BKz2.out;have pz1:0≤(a1_1:Int):=odA;have qz1:a1_1<(l0_0.length:Int):=odA;obtain⟨adz1,ez1,hxz1⟩:=Kd.at_int HR0_0.out a1_1 pz1 qz1;cases ez1;replace hxz1:=bc HB.out hxz1;replace pz1:=eq_true pz1;replace qz1:=eq_true qz1)
  go_ret
  exact⟨rE,(hX HB.out)⟩
 revert H;refine eP ?_ ?_<;>intro c25b0 c25b1 H
 ·go_wp2_with (first | (refine boxE 3 #[.slice A0_0 l0_0.length c0_0,.int .i64 a0_1] 41 ?_;intro gbz1 hg wz1 hbox hb;have BKz1:=aM (hbox);have GWz1:=aG hg HB;have GEz1:=aG hg HB;replace HB:=aS HB hb;clear hb hbox hg) | (refine boxE 4 #[.int .i64 a1_0,.int .i64 a1_1,.int .i64 a1_2] 69 ?_;intro gbz2 hg wz2 hbox hb;have BKz2:=aM (hbox);have GWz2:=aG hg HB;have GEz2:=aG hg HB;have NBz1:=aL hg BKz1;have NBz2:=aR hg BKz1;replace BKz1:=aB BKz1 hb;replace HB:=aS HB hb;clear hb hbox hg;have hnbz1:=NBz1.out;have hncz1:=NBz2.out;have hczz1:=cZ2 BKz1.out;have hczz3:=cZ3 BKz2.out) | (refine gB 160 12 Tryz.func160 (Xp.calls _ _ _ _ _ _ _ _ (rW HR0_0 HB HC0_0) A4.out) ?_;intro wz3 hb;replace BKz1:=aB BKz1 hb;replace BKz2:=aB BKz2 hb;replace HB:=aS HB hb;clear hb;have hczz6:=cZ2 BKz1.out;have hczz8:=cZ3 BKz2.out;refine Stop.out ?_))
  refine⟨?_⟩
  revert H;refine eP ?_ ?_<;>intro c26b0 c26b1 H
  ·obtain rfl:=sI H
   exact fS
  revert H;refine eN ?_ ?_<;>intro c35b0 c35b1 H
  ·obtain rfl:=sI H
   exact fS
  exact fR
 revert H;refine eN ?_ ?_<;>intro c52b0 c52b1 H
 ·go_wp2_with (first | (refine boxE 3 #[.slice A0_0 l0_0.length c0_0,.int .i64 a0_1] 41 ?_;intro gbz1 hg wz1 hbox hb;have BKz1:=aM (hbox);have GWz1:=aG hg HB;have GEz1:=aG hg HB;replace HB:=aS HB hb;clear hb hbox hg) | (refine boxE 4 #[.int .i64 a1_0,.int .i64 a1_1,.int .i64 a1_2] 69 ?_;intro gbz2 hg wz2 hbox hb;have BKz2:=aM (hbox);have GWz2:=aG hg HB;have GEz2:=aG hg HB;have NBz1:=aL hg BKz1;have NBz2:=aR hg BKz1;replace BKz1:=aB BKz1 hb;replace HB:=aS HB hb;clear hb hbox hg;have hnbz1:=NBz1.out;have hncz1:=NBz2.out;have hczz1:=cZ2 BKz1.out;have hczz3:=cZ3 BKz2.out;refine Stop.out ?_))
  refine⟨?_⟩
  revert H;refine eN ?_ ?_<;>intro c73b0 c73b1 H
  ·obtain rfl:=sI H
   go_wp2_with (refine gB 160 12 Tryz.func160 (Xp.calls _ _ _ _ _ _ _ _ (rW HR0_0 HB HC0_0) A4.out) ?_;intro wz3 hb;replace BKz1:=aB BKz1 hb;replace BKz2:=aB BKz2 hb;replace HB:=aS HB hb;clear hb;have hczz6:=cZ2 BKz1.out)
   go_ret
   exact⟨rE,(hX HB.out)⟩
  go_wp2_with (refine gB 160 12 Tryz.func160 (Xp.calls _ _ _ _ _ _ _ _ (rW HR0_0 HB HC0_0) A4.out) ?_;intro wz3 hb;replace BKz1:=aB BKz1 hb;replace BKz2:=aB BKz2 hb;replace HB:=aS HB hb;clear hb;have hczz6:=cZ2 BKz1.out;have hczz8:=cZ3 BKz2.out;refine Stop.out ?_)
  refine⟨?_⟩
  revert H;refine eP ?_ ?_<;>intro c74b0 c74b1 H
  ·obtain rfl:=sI H
   exact fS
  revert H;refine eN ?_ ?_<;>intro c83b0 c83b1 H
  ·revert H;refine eN ?_ ?_<;>intro c101b0 c101b1 H
   ·obtain rfl:=sI H
    exact fS
   exact fR
  revert H;refine eN ?_ ?_<;>intro c84b0 c84b1 H
  ·obtain rfl:=sI H
   exact fS
  exact fR
 have HC53:=aM H
 clear H
 go_upto_if 49 with(first | ((with_reducible refine gate_dst (N:=3) rfl ?_);refine boxE 3 #[.slice A0_0 l0_0.length c0_0,.int .i64 a0_1] 41 ?_;intro gbz1 hg wz1 hbox hb;have BKz1:=aM (hbox);have GWz1:=aG hg HB;have GEz1:=aG hg HB;replace HB:=aS HB hb;clear hb hbox hg) | ((with_reducible refine gate_dst (N:=4) rfl ?_);refine boxE 4 #[.int .i64 a1_0,.int .i64 a1_1,.int .i64 a1_2] 69 ?_;intro gbz2 hg wz2 hbox hb;have BKz2:=aM (hbox);have GWz2:=aG hg HB;have GEz2:=aG hg HB;have NBz1:=aL hg BKz1;have NBz2:=aR hg BKz1;replace BKz1:=aB BKz1 hb;replace HB:=aS HB hb;clear hb hbox hg;have hnbz1:=NBz1.out;have hncz1:=NBz2.out;have hczz1:=cZ2 BKz1.out;have hczz3:=cZ3 BKz2.out) | ((with_reducible refine gate_callee (f:=160) rfl ?_);refine gB 160 12 Tryz.func160 (Xp.calls _ _ _ _ _ _ _ _ (rW HR0_0 HB HC0_0) A4.out) ?_;intro wz3 hb;replace BKz1:=aB BKz1 hb;replace BKz2:=aB BKz2 hb;replace HB:=aS HB hb;clear hb;have hczz6:=cZ2 BKz1.out;have hczz8:=cZ3 BKz2.out))
 (try simp only[Act.put,List.setIfInBounds_toArray,List.set_cons_zero,List.set_cons_succ])
 go_cut [49] (fun vz1 wc=>∃ (kq:Nat) (x49_52:Bool),vz1 = .bool x49_52∧Aside0 (Xae.j0 kq (decide (t103 ≥ 0)) (a0_1 == 5) a1_0 x49_52 l0_0 a0_1 a1_0 a1_1 a1_2=some r)∧Aside0 (kq≤k)∧Aside0 (wc.heap[gbz1]? = some (.cells #[(.slice A0_0 l0_0.length c0_0),.int .i64 a0_1] 41 (0,0)))∧Aside0 (wc.heap[gbz2]? = some (.cells #[.int .i64 a1_0,.int .i64 a1_1,.int .i64 a1_2] 69 (0,0)))∧Aside0 (Below w.heap.size w wc))
 case first =>
  have H:=HC53.out
  clear HC53
  revert H;refine eP ?_ ?_<;>intro c62b0 c62b1 H
  ·(first | rw[c62b0] | (simp only[i64_w,i32_w];rw[c62b0]) | skip)
   have H':=aM H
   clear H
   go_wp2
   go_meet
   case rel=>exact⟨_,((a1_0 == 2)),rS,H',⟨by first | omega | exact Nat.le_refl _⟩,⟨(bX BKz1.out)⟩,⟨(bX BKz2.out)⟩,⟨(hX HB.out)⟩⟩
  (first | rw[c62b0] | (simp only[i64_w,i32_w];rw[c62b0]) | skip)
  revert H;refine eN ?_ ?_<;>intro c63b0 c63b1 H
  ·have H':=aM H
   clear H
   go_wp2
   go_meet
   case rel=>exact⟨_,((a1_0 == 4)),rS,H',⟨by first | omega | exact Nat.le_refl _⟩,⟨(bX BKz1.out)⟩,⟨(bX BKz2.out)⟩,⟨(hX HB.out)⟩⟩
  have H':=aM H
  clear H
  go_wp2
  go_meet
  case rel=>exact⟨_,((a1_0 == 3)),rS,H',⟨by first | omega | exact Nat.le_refl _⟩,⟨(bX BKz1.out)⟩,⟨(bX BKz2.out)⟩,⟨(hX HB.out)⟩⟩
 case rest =>
  clear HC53
  try clear c5b0
  try clear c5b1
  try clear c25b0
  try clear c25b1
  try clear c52b0
  try clear c52b1
  try clear hczz1
  try clear hczz3
  try clear hczz6
  try clear hczz8
  obtain⟨kq,x49_52,rfl,HA,HJy1,BKz1,BKz2,HB⟩:=hcut
  cases kq with
  | zero=>exact absurd HA.out (by simp[Xae.j0])
  | succ kj52 =>
   have H:=HA.out
   clear HA
   simp only[Xae.j0] at H
   cases x49_52
   case true =>
    rw[if_pos rfl] at H
    replace H:=ifQ H;obtain⟨c65b0,H⟩:=H
    replace H:=ifQ H;obtain⟨c66b0,H⟩:=H
    obtain rfl:=sI H
    have hnbx1:=nB NBz1 NBz2
    have hczx1:=cZ2 BKz1.out
    have hczx3:=cZ3 BKz2.out
    obtain⟨adx1,ex1,px1,qx1,hxx1⟩:=at_ic HR0_0 HB a1_1
    cases ex1
    exact fS
   rw[if_neg nft] at H
   revert H;refine eP ?_ ?_<;>intro c70b0 c70b1 H
   ·obtain rfl:=sI H
    exact fS
   revert H;refine eN ?_ ?_<;>intro c71b0 c71b1 H
   ·obtain rfl:=sI H
    exact fS
   by_cases c72:(a0_1 == 5)=true
   ·rw[if_pos c72] at H
    have c72b0:(a0_1 == 5)=true:=c72
    (try (have c72b1:decide (a0_1=5)=true:=by simpa using c72))
    (try (have c72b2:(a0_1 == 5)=true:=by simpa using c72))
    clear c72
    exact fR
   rw[if_neg c72] at H
   have c72b0:(a0_1 == 5)=false:=by simpa using c72
   (try (have c72b1:decide (a0_1=5)=false:=by simpa using c72))
   (try (have c72b2:(a0_1 == 5)=false:=by simpa using c72))
   (try (have c72b3:¬ (a0_1=5):=by simpa using c72))
   clear c72
   exact fR
def Xa1.f (k:Nat) (l0:List (S140)) (l1:List (S162)) (a2:Int):Option (Int):=(Xa.f a2 0 (wrap64 ((l0.length:Int) - 1))).bind fun t101=>(if t101=true then (if 0≤a2 then (if a2<(l0.length:Int) then (if ((rd_T140 l0 a2).f1)=0 then (some ((rd_T140 l0 a2).f0)) else ((Xa.f ((rd_T140 l0 a2).f1) 1 (l1.length:Int)).bind fun t104=>(if t104=true then (if 0≤(wrap64 (((rd_T140 l0 a2).f1) - 1)) then (if (wrap64 (((rd_T140 l0 a2).f1) - 1))<(l1.length:Int) then ((XH.f k ((rd_T162 l1 (wrap64 (((rd_T140 l0 a2).f1) - 1))).f0) ((rd_T162 l1 (wrap64 (((rd_T140 l0 a2).f1) - 1))).f1) ((rd_T162 l1 (wrap64 (((rd_T140 l0 a2).f1) - 1))).f2) ((rd_T162 l1 (wrap64 (((rd_T140 l0 a2).f1) - 1))).f3.f0) ((rd_T162 l1 (wrap64 (((rd_T140 l0 a2).f1) - 1))).f3.f1) a2).bind fun bt107=>(if ((rd_T162 l1 (wrap64 (((rd_T140 l0 a2).f1) - 1))).f0)=((rd_T140 l0 a2).f2) then (if ((rd_T162 l1 (wrap64 (((rd_T140 l0 a2).f1) - 1))).f1)=2 then (some bt107.2.2.1) else (some bt107.2.1)) else (some bt107.2.1))) else (none)) else (none)) else (some 0)))) else (none)) else (none)) else (some 0))
theorem Xa1.calls (k:Nat) (A0:Option Addr) (c0:Nat) (l0:List (S140)) (A1:Option Addr) (c1:Nat) (l1:List (S162)) (a2:Int) (r:Int) (w:World) (h0:Rw k140 w A0 c0 l0) (h1:Rw k162 w A1 c1 l1) (H:Xa1.f k l0 l1 a2=some r) :
  Calls Tryz.prog 116 #[.slice A0 l0.length c0,.slice A1 l1.length c1,.int .i64 a2] w fun e w'=>e = .returned (.int .i64 r)∧Below w.heap.size w w':=by
 have hu140:=Tryz.underlying140
 have hu162:=Tryz.underlying162
 have hu165:=Tryz.underlying165
 obtain⟨HR0,HC0⟩:=h0
 obtain⟨HR1,HC1⟩:=h1
 have HB:=aM (Below.refl w.heap.size w)
 unfold Xa1.f at H
 replace H:=bE H;obtain⟨t101,A4,H⟩:=H
 go_enter Tryz.func116,Tryz.ntmps116
 cases t101
 case false =>
  rw[if_neg nft] at H
  obtain rfl:=sI H
  go_wp2_with (refine gD 43 15 Tryz.func43 (Xa.calls _ _ _ _ _ A4.out) ?_;intro nd)
  go_ret
  exact⟨rE,(hX HB.out)⟩
 rw[if_pos rfl] at H
 replace H:=ifQ H;obtain⟨c6b0,H⟩:=H
 replace H:=ifQ H;obtain⟨c7b0,H⟩:=H
 go_wp2_with (first | (refine gD 43 15 Tryz.func43 (Xa.calls _ _ _ _ _ A4.out) ?_;intro nd;have pz1:0≤(a2:Int):=odA;have qz1:a2<(l0.length:Int):=odA;obtain⟨adz1,ez1,hxz1,hxz2,hxz3⟩:=at_T140 HR0.out a2 pz1 qz1;cases ez1;replace pz1:=eq_true pz1;replace qz1:=eq_true qz1) | (refine boxE 7 #[.int .i64 0,.int .i64 0,.int .i64 0] 140 ?_;intro gbz1 hg wz1 hbox hb;have BKz1:=aM (hbox);have GWz1:=aG hg HB;replace HB:=aS HB hb;clear hb hbox hg;have hczz1:=cZ3 BKz1.out;refine Stop.out ?_))
 refine⟨?_⟩
 revert H;refine eP ?_ ?_<;>intro c8b0 c8b1 H
 ·obtain rfl:=sI H
  exact fS
 replace H:=bE H;obtain⟨t104,A11,H⟩:=H
 cases t104
 case false =>
  rw[if_neg nft] at H
  obtain rfl:=sI H
  go_wp2_with (refine gD 43 30 Tryz.func43 (Xa.calls _ _ _ _ _ A11.out) ?_;intro nd)
  go_ret
  exact⟨rE,(hX HB.out)⟩
 rw[if_pos rfl] at H
 obtain⟨ji13,hji13⟩:∃ j_:Int,(wrap64 (((rd_T140 l0 a2).f1) - 1))=j_:=⟨_,rfl⟩
 replace H:(if 0≤(ji13) then (if (ji13)<(l1.length:Int) then ((XH.f k ((rd_T162 l1 (ji13)).f0) ((rd_T162 l1 (ji13)).f1) ((rd_T162 l1 (ji13)).f2) ((rd_T162 l1 (ji13)).f3.f0) ((rd_T162 l1 (ji13)).f3.f1) a2).bind fun bt107=>(if ((rd_T162 l1 (ji13)).f0)=((rd_T140 l0 a2).f2) then (if ((rd_T162 l1 (ji13)).f1)=2 then (some bt107.2.2.1) else (some bt107.2.1)) else (some bt107.2.1))) else (none)) else (none))=some r:=by first | (rw[hji13] at H;exact H) | (simp only[hji13] at H ⊢;exact H)
 (try rw[hji13] at A4)
 (try rw[hji13] at A11)
 have hji13w:(IntKind.i64.wrap (((rd_T140 l0 a2).f1) - 1))=ji13:=(i64_w _).trans hji13
 replace H:=ifQ H;obtain⟨c14b0,H⟩:=H
 replace H:=ifQ H;obtain⟨c15b0,H⟩:=H
 replace H:=bE H;obtain⟨⟨t107,t108,t109,t110⟩,A16,H⟩:=H
 try dsimp only at H
 go_wp2_with (first | (refine gD 43 30 Tryz.func43 (Xa.calls _ _ _ _ _ A11.out) ?_;intro nd;have pz2:0≤((ji13):Int):=odA;have qz2:(ji13)<(l1.length:Int):=odA;obtain⟨adz2,Az1,cz1,Az2,cz2,ez2,hxz4,hxz5,hxz6,hxz7,hxz8,hlz1,hiz1,hlz2,hiz2⟩:=at_T162 HR1.out (ji13) pz2 qz2;cases ez2;have hnz1:adz2.block ≠ gbz1:=Nat.ne_of_lt (Nat.lt_of_lt_of_le (by have:=World.block_lt_of_cell? _ _ hxz4;first | rwa [add_block] at this | exact this) GWz1.out);have hnz2:adz2.block ≠ gbz1:=Nat.ne_of_lt (Nat.lt_of_lt_of_le (by have:=World.block_lt_of_cell? _ _ hxz4;first | rwa [add_block] at this | exact this) GWz1.out);have hnz3:adz2.block ≠ gbz1:=Nat.ne_of_lt (Nat.lt_of_lt_of_le (by have:=World.block_lt_of_cell? _ _ hxz4;first | rwa [add_block] at this | exact this) GWz1.out);replace hxz4:=bc HB.out hxz4;replace hxz5:=bc HB.out hxz5;replace hxz6:=bc HB.out hxz6;replace hxz7:=bc HB.out hxz7;replace hxz8:=bc HB.out hxz8;have HRz1:=aM hiz1;have HCz1:=aM hlz1;clear hiz1 hlz1;have HRz2:=aM hiz2;have HCz2:=aM hlz2;clear hiz2 hlz2;replace hxz4:=(cell_far (p:=⟨gbz1,0,none⟩) (by first | (rw[add_block];exact hnz1) | (show (Addr.add _ _).block ≠ _;rw[add_block];exact hnz1) | exact hnz1) (.int .i64 ((rd_T140 l0 a2).f0))).trans hxz4;replace hxz5:=(cell_far (p:=⟨gbz1,0,none⟩) (by first | (rw[add_block];exact hnz1) | (show (Addr.add _ _).block ≠ _;rw[add_block];exact hnz1) | exact hnz1) (.int .i64 ((rd_T140 l0 a2).f0))).trans hxz5;replace hxz6:=(cell_far (p:=⟨gbz1,0,none⟩) (by first | (rw[add_block];exact hnz1) | (show (Addr.add _ _).block ≠ _;rw[add_block];exact hnz1) | exact hnz1) (.int .i64 ((rd_T140 l0 a2).f0))).trans hxz6;replace hxz7:=(cell_far (p:=⟨gbz1,0,none⟩) (by first | (rw[add_block];exact hnz1) | (show (Addr.add _ _).block ≠ _;rw[add_block];exact hnz1) | exact hnz1) (.int .i64 ((rd_T140 l0 a2).f0))).trans hxz7;replace hxz8:=(cell_far (p:=⟨gbz1,0,none⟩) (by first | (rw[add_block];exact hnz1) | (show (Addr.add _ _).block ≠ _;rw[add_block];exact hnz1) | exact hnz1) (.int .i64 ((rd_T140 l0 a2).f0))).trans hxz8;replace hxz4:=(cell_far (p:=⟨gbz1,1,none⟩) (by first | (rw[add_block];exact hnz2) | (show (Addr.add _ _).block ≠ _;rw[add_block];exact hnz2) | exact hnz2) (.int .i64 ((rd_T140 l0 a2).f1))).trans hxz4;replace hxz5:=(cell_far (p:=⟨gbz1,1,none⟩) (by first | (rw[add_block];exact hnz2) | (show (Addr.add _ _).block ≠ _;rw[add_block];exact hnz2) | exact hnz2) (.int .i64 ((rd_T140 l0 a2).f1))).trans hxz5;replace hxz6:=(cell_far (p:=⟨gbz1,1,none⟩) (by first | (rw[add_block];exact hnz2) | (show (Addr.add _ _).block ≠ _;rw[add_block];exact hnz2) | exact hnz2) (.int .i64 ((rd_T140 l0 a2).f1))).trans hxz6;replace hxz7:=(cell_far (p:=⟨gbz1,1,none⟩) (by first | (rw[add_block];exact hnz2) | (show (Addr.add _ _).block ≠ _;rw[add_block];exact hnz2) | exact hnz2) (.int .i64 ((rd_T140 l0 a2).f1))).trans hxz7;replace hxz8:=(cell_far (p:=⟨gbz1,1,none⟩) (by first | (rw[add_block];exact hnz2) | (show (Addr.add _ _).block ≠ _;rw[add_block];exact hnz2) | exact hnz2) (.int .i64 ((rd_T140 l0 a2).f1))).trans hxz8;replace hxz4:=(cell_far (p:=⟨gbz1,2,none⟩) (by first | (rw[add_block];exact hnz3) | (show (Addr.add _ _).block ≠ _;rw[add_block];exact hnz3) | exact hnz3) (.int .i64 ((rd_T140 l0 a2).f2))).trans hxz4;replace hxz5:=(cell_far (p:=⟨gbz1,2,none⟩) (by first | (rw[add_block];exact hnz3) | (show (Addr.add _ _).block ≠ _;rw[add_block];exact hnz3) | exact hnz3) (.int .i64 ((rd_T140 l0 a2).f2))).trans hxz5;replace hxz6:=(cell_far (p:=⟨gbz1,2,none⟩) (by first | (rw[add_block];exact hnz3) | (show (Addr.add _ _).block ≠ _;rw[add_block];exact hnz3) | exact hnz3) (.int .i64 ((rd_T140 l0 a2).f2))).trans hxz6;replace hxz7:=(cell_far (p:=⟨gbz1,2,none⟩) (by first | (rw[add_block];exact hnz3) | (show (Addr.add _ _).block ≠ _;rw[add_block];exact hnz3) | exact hnz3) (.int .i64 ((rd_T140 l0 a2).f2))).trans hxz7;replace hxz8:=(cell_far (p:=⟨gbz1,2,none⟩) (by first | (rw[add_block];exact hnz3) | (show (Addr.add _ _).block ≠ _;rw[add_block];exact hnz3) | exact hnz3) (.int .i64 ((rd_T140 l0 a2).f2))).trans hxz8;clear hnz1;clear hnz2;clear hnz3;replace pz2:=eq_true pz2;replace qz2:=eq_true qz2) | (refine boxE 8 #[.int .i64 0,.int .i64 0,.slice none 0 0,.int .i64 0,.slice none 0 0] 162 ?_;intro gbz2 hg wz2 hbox hb;have BKz2:=aM (hbox);have GWz2:=aG hg HB;have NBz1:=aM (gL hg (bP BKz1.out));have NBz2:=aM (gG hg (bP BKz1.out));replace BKz1:=aM (blk_below (g:=gbz1) (o:=.cells #[.int .i64 ((rd_T140 l0 a2).f0),.int .i64 ((rd_T140 l0 a2).f1),.int .i64 ((rd_T140 l0 a2).f2)] 140 (0,0)) (bP BKz1.out) hb);replace HB:=aS HB hb;clear hb hbox hg;have hnbz1:=nB NBz2 NBz1;have hczz4:=cZ5 BKz2.out) | ((with_reducible refine gate_callee (f:=158) rfl ?_);refine goesL_ (some 41) rfl rfl Tryz.func158 (by kernel_rfl) rfl #[.agg #[.int .i64 ((rd_T162 l1 (ji13)).f0),.int .i64 ((rd_T162 l1 (ji13)).f1),.slice Az1 ((rd_T162 l1 (ji13)).f2).length cz1,.int .i64 ((rd_T162 l1 (ji13)).f3.f0),.slice Az2 ((rd_T162 l1 (ji13)).f3.f1).length cz2],.int .i64 a2] rfl (by (try simp only[List.map_toArray,List.map_cons,List.map_nil]);first | done | (simp only[hji13];rfl) | rfl | (simp only[List.length_drop,List.length_take];rfl)) ?_;(with_reducible refine(XH.calls k ((rd_T162 l1 (ji13)).f0) ((rd_T162 l1 (ji13)).f1) _ _ ((rd_T162 l1 (ji13)).f2) ((rd_T162 l1 (ji13)).f3.f0) _ _ ((rd_T162 l1 (ji13)).f3.f1) a2 t107 t108 t109 t110 _ (rW HRz1 HB HCz1) (rW HRz2 HB HCz2) A16.out).mono ?_);rintro e wz3 ⟨rfl,hb⟩;refine⟨_,rfl,?_⟩;replace BKz1:=aF BKz1 hb;replace BKz2:=aM (blk_below (g:=gbz2) (o:=.cells #[.int .i64 ((rd_T162 l1 (ji13)).f0),.int .i64 ((rd_T162 l1 (ji13)).f1),.slice Az1 ((rd_T162 l1 (ji13)).f2).length cz1,.int .i64 ((rd_T162 l1 (ji13)).f3.f0),.slice Az2 ((rd_T162 l1 (ji13)).f3.f1).length cz2] 162 (0,0)) (bP BKz2.out) hb);replace HB:=aS HB hb;clear hb) | (refine boxE 9 #[.int .i64 0,.int .i64 0,.int .i64 0] 165 ?_;intro gbz3 hg wz4 hbox hb;have BKz3:=aM (hbox);have GWz3:=aG hg HB;have NBz3:=aL hg BKz1;have NBz4:=aR hg BKz1;have NBz5:=aM ((by rw[hg];exact Nat.ne_of_lt (blk_lt (g:=gbz2) (o:=.cells #[.int .i64 ((rd_T162 l1 (ji13)).f0),.int .i64 ((rd_T162 l1 (ji13)).f1),.slice Az1 ((rd_T162 l1 (ji13)).f2).length cz1,.int .i64 ((rd_T162 l1 (ji13)).f3.f0),.slice Az2 ((rd_T162 l1 (ji13)).f3.f1).length cz2] 162 (0,0)) (bX BKz2.out)):gbz2 ≠ gbz3));have NBz6:=aM ((by rw[hg];exact Nat.ne_of_gt (blk_lt (g:=gbz2) (o:=.cells #[.int .i64 ((rd_T162 l1 (ji13)).f0),.int .i64 ((rd_T162 l1 (ji13)).f1),.slice Az1 ((rd_T162 l1 (ji13)).f2).length cz1,.int .i64 ((rd_T162 l1 (ji13)).f3.f0),.slice Az2 ((rd_T162 l1 (ji13)).f3.f1).length cz2] 162 (0,0)) (bX BKz2.out)):gbz3 ≠ gbz2));replace BKz1:=aB BKz1 hb;replace BKz2:=aM (blk_below (g:=gbz2) (o:=.cells #[.int .i64 ((rd_T162 l1 (ji13)).f0),.int .i64 ((rd_T162 l1 (ji13)).f1),.slice Az1 ((rd_T162 l1 (ji13)).f2).length cz1,.int .i64 ((rd_T162 l1 (ji13)).f3.f0),.slice Az2 ((rd_T162 l1 (ji13)).f3.f1).length cz2] 162 (0,0)) (bX BKz2.out) hb);replace HB:=aS HB hb;clear hb hbox hg;have hnbz2:=nB NBz4 NBz3;have hnbz3:=nB NBz6 NBz5;have hczz9:=cZ3 BKz3.out;have hczz12:=cZ5 BKz2.out;have hczz17:=cZ3 BKz1.out;refine Stop.out ?_))
 refine⟨?_⟩
 revert H;refine eN ?_ ?_<;>intro c17b0 c17b1 H
 ·obtain rfl:=sI H
  go_wp2
  go_ret
  exact⟨by first | rfl | (simp[errW_none,errW_some]<;>rfl) | (simp only[← hji13];first | rfl | (simp[errW_none,errW_some]<;>rfl)) | (simp[*,errW_none,errW_some]<;>rfl),(hX HB.out)⟩
 revert H;refine eN ?_ ?_<;>intro c18b0 c18b1 H
 ·obtain rfl:=sI H
  go_wp2
  go_ret
  exact⟨by first | rfl | (simp[errW_none,errW_some]<;>rfl) | (simp only[← hji13];first | rfl | (simp[errW_none,errW_some]<;>rfl)) | (simp[*,errW_none,errW_some]<;>rfl),(hX HB.out)⟩
 obtain rfl:=sI H
 go_wp2
 go_ret
 exact⟨by first | rfl | (simp[errW_none,errW_some]<;>rfl) | (simp only[← hji13];first | rfl | (simp[errW_none,errW_some]<;>rfl)) | (simp[*,errW_none,errW_some]<;>rfl),(hX HB.out)⟩
def Xa2.f (a0:Int):Option (Int):=(Xa.f a0 0 2).bind fun t101=>(if t101=true then (some (wrap64 (10+a0))) else (some (-1)))
theorem Xa2.calls (a0:Int) (r:Int) (w:World) (H:Xa2.f a0=some r) :
  Calls Tryz.prog 147 #[.int .i64 a0] w fun e w'=>e = .returned (.int .i64 r)∧Drawn0 w w':=by
 unfold Xa2.f at H
 replace H:=bE H;obtain⟨t101,A2,H⟩:=H
 go_enter Tryz.func147,Tryz.ntmps147
 cases t101
 case true =>
  rw[if_pos rfl] at H
  obtain rfl:=sI H
  go_wp2_with (refine gD 43 4 Tryz.func43 (Xa.calls _ _ _ _ _ A2.out) ?_;intro nd)
  go_ret
  exact⟨by first | rfl | (simp;done) | (simp[*];done),dX⟩
 rw[if_neg nft] at H
 obtain rfl:=sI H
 go_wp2_with (refine gD 43 4 Tryz.func43 (Xa.calls _ _ _ _ _ A2.out) ?_;intro nd)
 go_ret
 exact⟨by first | rfl | (simp;done) | (simp[*];done),dX⟩
def Xaj.f (a0:Int):Option (Bool):=(Xd.f a0 0 19).bind fun t101=>(some t101)
theorem Xaj.calls (a0:Int) (r:Bool) (w:World) (H:Xaj.f a0=some r) :
  Calls Tryz.prog 182 #[.int .i64 a0] w fun e w'=>e = .returned (.bool r)∧Drawn0 w w':=by
 unfold Xaj.f at H
 replace H:=bE H;obtain⟨t101,A2,H⟩:=H
 obtain rfl:=sI H
 go_enter Tryz.func182,Tryz.ntmps182
 go_wp2_with (refine gD 102 4 Tryz.func102 (Xd.calls _ _ _ _ _ A2.out) ?_;intro nd)
 go_ret
 exact⟨by first | rfl | (simp;done) | (simp[*];done),dX⟩
def XG.f (a0:Int):Option (Bool):=(Xd.f a0 0 1000).bind fun t101=>(some t101)
theorem XG.calls (a0:Int) (r:Bool) (w:World) (H:XG.f a0=some r) :
  Calls Tryz.prog 183 #[.int .i64 a0] w fun e w'=>e = .returned (.bool r)∧Drawn0 w w':=by
 unfold XG.f at H
 replace H:=bE H;obtain⟨t101,A2,H⟩:=H
 obtain rfl:=sI H
 go_enter Tryz.func183,Tryz.ntmps183
 go_wp2_with (refine gD 102 4 Tryz.func102 (Xd.calls _ _ _ _ _ A2.out) ?_;intro nd)
 go_ret
 exact⟨by first | rfl | (simp;done) | (simp[*];done),dX⟩
def XM.f (a0:Int):Option (Bool):=(Xd.f a0 1 6).bind fun t101=>(some t101)
theorem XM.calls (a0:Int) (r:Bool) (w:World) (H:XM.f a0=some r) :
  Calls Tryz.prog 174 #[.int .i64 a0] w fun e w'=>e = .returned (.bool r)∧Drawn0 w w':=by
 unfold XM.f at H
 replace H:=bE H;obtain⟨t101,A2,H⟩:=H
 obtain rfl:=sI H
 go_enter Tryz.func174,Tryz.ntmps174
 go_wp2_with (refine gD 102 4 Tryz.func102 (Xd.calls _ _ _ _ _ A2.out) ?_;intro nd)
 go_ret
 exact⟨by first | rfl | (simp;done) | (simp[*];done),dX⟩
end Go.Proofs.YtmljebgideecjaaGreat.P2
