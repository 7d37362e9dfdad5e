/- A part of the proof of the law FnStarts: texts of this seat, merged (words, printed functions of the program, plain lemmas). Conditions: none of its own. -/
import Derived.Test.YthejoblnfpaojaaGreatPkFnStarts11
import Derived.Test.YthejoblnfpaojaaGreatPkFnStarts12
set_option linter.unusedSimpArgs false
set_option linter.unusedVariables false
set_option maxHeartbeats 8000000
set_option maxRecDepth 100000
namespace Go.Proofs.YthejoblnfpaojaaGreat.P
open Go.Proofs.YthejoblnfpaojaaGreatZ Go.RowKit Go.Proofs.YthejoblnfpaojaaGreatW.PrintWords Go.Proofs.YthejoblnfpaojaaGreatW.PrintLast Go.Proofs.YthejoblnfpaojaaGreatW.PrintMore
attribute [local go_sem] max2_int min2_int max_two min_two max_three min_three max_four min_four   -- for this text's walks alone
attribute [local go_sem high] eqA78
def XM.l0:Nat→Int→Int→Int→Int→List (S51)→List (S58)→List (S108)→Int→List (S80)→List Int→List Int→Int→List (S78)→Int→Bool→List (S152)→List (S154)→Option (Bool)
 | 0,_,_,_,_,_,_,_,_,_,_,_,_,_,_,_,_,_=>none
 | k+1,x1,x6,x7,x8,x102000,x102001,x102002,x102003,x102004,x102005,x102006,x102007,x104000,x104001,x104002,x104003,x104004=>if x8<(x102004.length:Int) then (if 0≤x8 then (if ((rd_T80 x102004 x8).f0)=x1 then (if ((rd_T80 x102004 x8).f4) ≥ 0 then (XM.l0 k x1 x6 (wrap64 (x7+1)) (wrap64 (x8+1)) x102000 x102001 x102002 x102003 x102004 x102005 x102006 x102007 x104000 x104001 x104002 x104003 x104004) else (if x104002=true then (if x8=x6 then (XM.l0 k x1 x6 x7 (wrap64 (x8+1)) x102000 x102001 x102002 x102003 x102004 x102005 x102006 x102007 x104000 x104001 x104002 x104003 x104004) else (some false)) else (some false))) else (XM.l0 k x1 x6 x7 (wrap64 (x8+1)) x102000 x102001 x102002 x102003 x102004 x102005 x102006 x102007 x104000 x104001 x104002 x104003 x104004)) else (none)) else (if x7=x104001 then (if x104002=true then (if x6 ≥ 0 then (if 0≤x6 then (if x6<(x102004.length:Int) then (if ((rd_T80 x102004 x6).f4)=(-1) then (if 0≤x104001 then (if x104001<(x104000.length:Int) then (some (((rd_T80 x102004 x6).f1.f0) == ((rd_T78 x104000 x104001).f0) && (((rd_T80 x102004 x6).f1.f1) == ((rd_T78 x104000 x104001).f1) && (((rd_T80 x102004 x6).f1.f2) == ((rd_T78 x104000 x104001).f2))))) else (none)) else (none)) else (some false)) else (none)) else (none)) else (some false)) else (some true)) else (some false))
def XM.f (k:Nat) (l0_0:List (S51)) (l0_1:List (S58)) (l0_2:List (S108)) (a0_3:Int) (l0_4:List (S80)) (l0_5:List Int) (l0_6:List Int) (a0_7:Int) (a1:Int):Option (Bool):=if 0≤a1 then (if a1<(l0_2.length:Int) then ((X5.f k l0_0 l0_1 l0_2 a0_3 l0_4 l0_5 l0_6 a0_7 a1).bind fun t104=>(XM.l0 k a1 t104 0 0 l0_0 l0_1 l0_2 a0_3 l0_4 l0_5 l0_6 a0_7 ((rd_T108 l0_2 a1).f0) ((rd_T108 l0_2 a1).f1) ((rd_T108 l0_2 a1).f2) ((rd_T108 l0_2 a1).f3) ((rd_T108 l0_2 a1).f4))) else (none)) else (none)
theorem XM.calls (k:Nat) (A0_0:Option Addr) (c0_0:Nat) (l0_0:List (S51)) (A0_1:Option Addr) (c0_1:Nat) (l0_1:List (S58)) (A0_2:Option Addr) (c0_2:Nat) (l0_2:List (S108)) (a0_3:Int) (A0_4:Option Addr) (c0_4:Nat) (l0_4:List (S80)) (A0_5:Option Addr) (c0_5:Nat) (l0_5:List Int) (A0_6:Option Addr) (c0_6:Nat) (l0_6:List Int) (a0_7:Int) (a1:Int) (r:Bool) (w:World) (h0_0:Rw k51 w A0_0 c0_0 l0_0) (h0_1:Rw k58 w A0_1 c0_1 l0_1) (h0_2:Rw k108 w A0_2 c0_2 l0_2) (h0_4:Rw k80 w A0_4 c0_4 l0_4) (h0_5:Rw (Kd.int .i64) w A0_5 c0_5 l0_5) (h0_6:Rw (Kd.int .i64) w A0_6 c0_6 l0_6) (H:XM.f k l0_0 l0_1 l0_2 a0_3 l0_4 l0_5 l0_6 a0_7 a1=some r) :
  Calls Tryz.prog 148 #[.agg #[.slice A0_0 l0_0.length c0_0,.slice A0_1 l0_1.length c0_1,.slice A0_2 l0_2.length c0_2,.int .i64 a0_3,.slice A0_4 l0_4.length c0_4,.slice A0_5 l0_5.length c0_5,.slice A0_6 l0_6.length c0_6,.int .i64 a0_7],.int .i64 a1] w fun e w'=>e = .returned (.bool r)∧Below w.heap.size w w':=by
 have hu37:=Tryz.underlying37
 have hu108:=Tryz.underlying108
 have hu78:=Tryz.underlying78
 obtain⟨HR0_0,HC0_0⟩:=h0_0
 obtain⟨HR0_1,HC0_1⟩:=h0_1
 obtain⟨HR0_2,HC0_2⟩:=h0_2
 obtain⟨HR0_4,HC0_4⟩:=h0_4
 obtain⟨HR0_5,HC0_5⟩:=h0_5
 obtain⟨HR0_6,HC0_6⟩:=h0_6
 have HB:=aM (Below.refl w.heap.size w)
 unfold XM.f at H
 replace H:=ifQ H;obtain⟨c3b0,H⟩:=H
 replace H:=ifQ H;obtain⟨c4b0,H⟩:=H
 replace H:=bE H;obtain⟨t104,A5,H⟩:=H
 have H':=aM H
 clear H
 go_enter Tryz.func148,Tryz.ntmps148
 go_wp2_with (first | (refine boxE 2 #[.slice A0_0 l0_0.length c0_0,.slice A0_1 l0_1.length c0_1,.slice A0_2 l0_2.length c0_2,.int .i64 a0_3,.slice A0_4 l0_4.length c0_4,.slice A0_5 l0_5.length c0_5,.slice A0_6 l0_6.length c0_6,.int .i64 a0_7] 37 ?_;intro gbz1 hg wz1 hbox hb;have BKz1:=aM (hbox);have GWz1:=aG hg HB;have GEz1:=aG hg HB;replace HB:=aS HB hb;clear hb hbox hg;have hczz1:=cZ8 BKz1.out;have pz1:0≤(a1:Int):=odA;have qz1:a1<(l0_2.length:Int):=odA;obtain⟨adz1,Az1,cz1,Az2,cz2,Az3,cz3,ez1,hxz1,hxz2,hxz3,hxz4,hxz5,hlz1,hiz1,hlz2,hiz2,hlz3,hiz3⟩:=at_T108 HR0_2.out a1 pz1 qz1;cases ez1;replace hxz1:=bc HB.out hxz1;replace hxz2:=bc HB.out hxz2;replace hxz3:=bc HB.out hxz3;replace hxz4:=bc HB.out hxz4;replace hxz5:=bc HB.out hxz5;have HRz1:=aM hiz1;have HCz1:=aM hlz1;clear hiz1 hlz1;have HRz2:=aM hiz2;have HCz2:=aM hlz2;clear hiz2 hlz2;have HRz3:=aM hiz3;have HCz3:=aM hlz3;clear hiz3 hlz3;replace pz1:=eq_true pz1;replace qz1:=eq_true qz1) | (refine boxE 5 #[.slice none 0 0,.int .i64 0,.bool false,.slice none 0 0,.slice none 0 0] 108 ?_;intro gbz2 hg wz2 hbox hb;have BKz2:=aM (hbox);have GWz2:=aG hg HB;have GEz2:=aG hg HB;have NBz1:=aL hg BKz1;have NBz2:=aR hg BKz1;replace BKz1:=aB BKz1 hb;replace HB:=aS HB hb;clear hb hbox hg;have hnbz1:=NBz2.out;have hncz1:=NBz1.out;have hczz9:=cZ5 BKz2.out;have hczz14:=cZ8 BKz1.out) | (go_at_call 196;(with_reducible refine(X5.calls _ _ _ _ _ _ _ _ _ _ _ _ _ _ _ _ _ _ _ _ _ _ _ _ (rW HR0_0 HB HC0_0) (rW HR0_1 HB HC0_1) (rW HR0_2 HB HC0_2) (rW HR0_4 HB HC0_4) (rW HR0_5 HB HC0_5) (rW HR0_6 HB HC0_6) A5.out).mono ?_);rintro e wz3 ⟨rfl,hb⟩;replace BKz1:=aF BKz1 hb;replace BKz2:=aM (blk_below (g:=gbz2) (o:=.cells #[.slice Az1 ((rd_T108 l0_2 a1).f0).length cz1,.int .i64 ((rd_T108 l0_2 a1).f1),.bool ((rd_T108 l0_2 a1).f2),.slice Az2 ((rd_T108 l0_2 a1).f3).length cz2,.slice Az3 ((rd_T108 l0_2 a1).f4).length cz3] 108 (0,0)) (bP BKz2.out) hb);replace HB:=aS HB hb;clear hb))
 repeat (go_quiet (fail);try go_wp2_with (first | ((with_reducible refine gate_dst (N:=2) rfl ?_);refine boxF 2 #[.slice A0_0 l0_0.length c0_0,.slice A0_1 l0_1.length c0_1,.slice A0_2 l0_2.length c0_2,.int .i64 a0_3,.slice A0_4 l0_4.length c0_4,.slice A0_5 l0_5.length c0_5,.slice A0_6 l0_6.length c0_6,.int .i64 a0_7] 37 ?_;intro gbz1 hg wz1 hbox hb;have BKz1:=aM (hbox);have GWz1:=aG hg HB;have GEz1:=aG hg HB;replace HB:=aS HB hb;clear hb hbox hg;have hczz1:=cZ8 BKz1.out;have pz1:0≤(a1:Int):=odA;have qz1:a1<(l0_2.length:Int):=odA;obtain⟨adz1,Az1,cz1,Az2,cz2,Az3,cz3,ez1,hxz1,hxz2,hxz3,hxz4,hxz5,hlz1,hiz1,hlz2,hiz2,hlz3,hiz3⟩:=at_T108 HR0_2.out a1 pz1 qz1;cases ez1;replace hxz1:=bc HB.out hxz1;replace hxz2:=bc HB.out hxz2;replace hxz3:=bc HB.out hxz3;replace hxz4:=bc HB.out hxz4;replace hxz5:=bc HB.out hxz5;have HRz1:=aM hiz1;have HCz1:=aM hlz1;clear hiz1 hlz1;have HRz2:=aM hiz2;have HCz2:=aM hlz2;clear hiz2 hlz2;have HRz3:=aM hiz3;have HCz3:=aM hlz3;clear hiz3 hlz3;replace pz1:=eq_true pz1;replace qz1:=eq_true qz1) | ((with_reducible refine gate_dst (N:=5) rfl ?_);refine boxF 5 #[.slice none 0 0,.int .i64 0,.bool false,.slice none 0 0,.slice none 0 0] 108 ?_;intro gbz2 hg wz2 hbox hb;have BKz2:=aM (hbox);have GWz2:=aG hg HB;have GEz2:=aG hg HB;have NBz1:=aL hg BKz1;have NBz2:=aR hg BKz1;replace BKz1:=aB BKz1 hb;replace HB:=aS HB hb;clear hb hbox hg;have hnbz1:=NBz2.out;have hncz1:=NBz1.out;have hczz9:=cZ5 BKz2.out;have hczz14:=cZ8 BKz1.out) | (go_at_call 196;(with_reducible refine(X5.calls _ _ _ _ _ _ _ _ _ _ _ _ _ _ _ _ _ _ _ _ _ _ _ _ (rW HR0_0 HB HC0_0) (rW HR0_1 HB HC0_1) (rW HR0_2 HB HC0_2) (rW HR0_4 HB HC0_4) (rW HR0_5 HB HC0_5) (rW HR0_6 HB HC0_6) A5.out).mono ?_);rintro e wz3 ⟨rfl,hb⟩;replace BKz1:=aF BKz1 hb;replace BKz2:=aM (blk_below (g:=gbz2) (o:=.cells #[.slice Az1 ((rd_T108 l0_2 a1).f0).length cz1,.int .i64 ((rd_T108 l0_2 a1).f1),.bool ((rd_T108 l0_2 a1).f2),.slice Az2 ((rd_T108 l0_2 a1).f3).length cz2,.slice Az3 ((rd_T108 l0_2 a1).f4).length cz3] 108 (0,0)) (bP BKz2.out) hb);replace HB:=aS HB hb;clear hb)))
 go_loopg [7,8] k (fun kq v7 v8 w'=>∃ (x7_1:Int) (x8_1:Int),v7 = .int .i64 x7_1∧v8 = .int .i64 x8_1∧Aside0 (XM.l0 kq a1 t104 x7_1 x8_1 l0_0 l0_1 l0_2 a0_3 l0_4 l0_5 l0_6 a0_7 ((rd_T108 l0_2 a1).f0) ((rd_T108 l0_2 a1).f1) ((rd_T108 l0_2 a1).f2) ((rd_T108 l0_2 a1).f3) ((rd_T108 l0_2 a1).f4)=some r)∧Aside0 (kq≤k)∧Aside0 (w'.heap[gbz1]? = some (.cells #[(.slice A0_0 l0_0.length c0_0),(.slice A0_1 l0_1.length c0_1),(.slice (some adz1) l0_2.length c0_2),.int .i64 a0_3,(.slice A0_4 l0_4.length c0_4),(.slice A0_5 l0_5.length c0_5),(.slice A0_6 l0_6.length c0_6),.int .i64 a0_7] 37 (0,0)))∧Aside0 (w'.heap[gbz2]? = some (.cells #[(.slice Az1 ((rd_T108 l0_2 a1).f0).length cz1),.int .i64 ((rd_T108 l0_2 a1).f1),.bool ((rd_T108 l0_2 a1).f2),(.slice Az2 ((rd_T108 l0_2 a1).f3).length cz2),(.slice Az3 ((rd_T108 l0_2 a1).f4).length cz3)] 108 (0,0)))∧Aside0 (Below w.heap.size w w'))
 case atStart=>exact⟨(0),(0),rS,rS,H',⟨Nat.le_refl _⟩,⟨(bX BKz1.out)⟩,⟨(bX BKz2.out)⟩,⟨(hX HB.out)⟩⟩
 case round =>
  clear H'
  try clear c3b0
  try clear c4b0
  try clear hczz9
  try clear hczz14
  try clear hczz1
  try clear hxz1
  try clear hxz2
  try clear hxz3
  try clear hxz4
  try clear hxz5
  try clear pz1
  try clear qz1
  obtain⟨x7_1,x8_1,rfl,rfl,HA,HKy1,BKz1,BKz2,HB⟩:=hrel
  cases gk with
  | zero=>exact absurd HA.out (by simp[XM.l0])
  | succ k1 =>
   have H:=HA.out
   clear HA
   simp only[XM.l0] at H
   revert H;refine iN ?_ ?_<;>intro c13b0 H
   ·revert H;refine eN ?_ ?_<;>intro c32b0 c32b1 H
    ·obtain rfl:=sI H
     have hnbx1:=NBz1.out
     have hncx1:=NBz2.out
     have hczx1:=cZ8 BKz1.out
     have hczx9:=cZ5 BKz2.out
     go_wp2
     repeat (go_quiet (fail);try go_wp2)
     go_ret
     exact⟨rE,(hX HB.out)⟩
    by_cases c33:((rd_T108 l0_2 a1).f2)=true
    case neg =>
     rw[if_neg c33] at H
     have c33b0:((rd_T108 l0_2 a1).f2)=false:=by simpa using c33
     clear c33
     obtain rfl:=sI H
     have hnbx1:=NBz1.out
     have hncx1:=NBz2.out
     have hczx1:=cZ8 BKz1.out
     have hczx9:=cZ5 BKz2.out
     go_wp2
     repeat (go_quiet (fail);try go_wp2)
     go_ret
     exact⟨rE,(hX HB.out)⟩
    rw[if_pos c33] at H
    have c33b0:((rd_T108 l0_2 a1).f2)=true:=c33
    clear c33
    revert H;refine iN ?_ ?_<;>intro c34b0 H
    ·obtain rfl:=sI H
     have hnbx1:=NBz1.out
     have hncx1:=NBz2.out
     have hczx1:=cZ8 BKz1.out
     have hczx9:=cZ5 BKz2.out
     go_wp2
     repeat (go_quiet (fail);try go_wp2)
     go_ret
     exact⟨rE,(hX HB.out)⟩
    replace H:=ifQ H;obtain⟨c35b0,H⟩:=H
    replace H:=ifQ H;obtain⟨c36b0,H⟩:=H
    revert H;refine eN ?_ ?_<;>intro c37b0 c37b1 H
    ·obtain rfl:=sI H
     have hnbx1:=NBz1.out
     have hncx1:=NBz2.out
     have hczx1:=cZ8 BKz1.out
     have hczx9:=cZ5 BKz2.out
     obtain⟨adx1,Ax1,cx1,ex1,px1,qx1,hxx1,HCx1,HRx1⟩:=at_T80c HR0_4 HB t104
     cases ex1
     go_wp2
     repeat (go_quiet (fail);try go_wp2)
     go_ret
     exact⟨rE,(hX HB.out)⟩
    replace H:=ifQ H;obtain⟨c38b0,H⟩:=H
    replace H:=ifQ H;obtain⟨c39b0,H⟩:=H
    obtain rfl:=sI H
    have hnbx1:=NBz1.out
    have hncx1:=NBz2.out
    have hczx1:=cZ8 BKz1.out
    have hczx9:=cZ5 BKz2.out
    obtain⟨adx1,Ax1,cx1,ex1,px1,qx1,⟨hxx1,hxx2,hxx3,hxx4,hxx5,hxx6,hxx7,hxx8,hxx9⟩,HCx1,HRx1⟩:=at_T80c HR0_4 HB t104
    cases ex1
    obtain⟨adx2,Ax2,cx2,ex2,px2,qx2,⟨hxx10,hxx11,hxx12,hxx13,hxx14,hxx15,hxx16,hxx17,hxx18⟩,HCx2,HRx2⟩:=at_T80c HR0_4 HB t104
    obtain rfl:adx1=adx2:=(by injection ex2)
    have ea_:=Option.some.inj (hxx9.symm.trans hxx18)
    injection ea_ with ea_ en_ ec_
    subst ea_
    subst ec_
    clear en_
    obtain⟨adx3,ex3,px3,qx3,hxx19⟩:=at_T78c HRz1 HB ((rd_T108 l0_2 a1).f1)
    cases ex3
    go_wp2
    repeat (go_quiet (fail);try go_wp2)
    go_ret
    exact⟨rE,(hX HB.out)⟩
   replace H:=ifQ H;obtain⟨c14b0,H⟩:=H
   revert H;refine eN ?_ ?_<;>intro c15b0 c15b1 H
   ·have H':=aM H
    clear H
    have hnbx1:=NBz1.out
    have hncx1:=NBz2.out
    have hczx1:=cZ8 BKz1.out
    obtain⟨adx1,Ax1,cx1,ex1,px1,qx1,hxx1,HCx1,HRx1⟩:=at_T80c HR0_4 HB x8_1
    cases ex1
    go_wp2
    repeat (go_quiet (fail);try go_wp2)
    go_roundg k1
    case measure=>have:=HKy1.out;omega
    case rel=>exact⟨(x7_1),(wrap64 (x8_1+1)),rS,rS,H',⟨by have:=HKy1.out;omega⟩,⟨(bX BKz1.out)⟩,⟨(bX BKz2.out)⟩,⟨(hX HB.out)⟩⟩
   revert H;refine iP ?_ ?_<;>intro c16b0 H
   ·have H':=aM H
    clear H
    have hnbx1:=NBz1.out
    have hncx1:=NBz2.out
    have hczx1:=cZ8 BKz1.out
    obtain⟨adx1,Ax1,cx1,ex1,px1,qx1,⟨hxx1,hxx2,hxx3,hxx4,hxx5,hxx6,hxx7,hxx8,hxx9⟩,HCx1,HRx1⟩:=at_T80c HR0_4 HB x8_1
    cases ex1
    obtain⟨adx2,Ax2,cx2,ex2,px2,qx2,⟨hxx10,hxx11,hxx12,hxx13,hxx14,hxx15,hxx16,hxx17,hxx18⟩,HCx2,HRx2⟩:=at_T80c HR0_4 HB x8_1
    obtain rfl:adx1=adx2:=(by injection ex2)
    have ea_:=Option.some.inj (hxx9.symm.trans hxx18)
    injection ea_ with ea_ en_ ec_
    subst ea_
    subst ec_
    clear en_
    go_wp2
    repeat (go_quiet (fail);try go_wp2)
    go_roundg k1
    case measure=>have:=HKy1.out;omega
    case rel=>exact⟨(wrap64 (x7_1+1)),(wrap64 (x8_1+1)),rS,rS,H',⟨by have:=HKy1.out;omega⟩,⟨(bX BKz1.out)⟩,⟨(bX BKz2.out)⟩,⟨(hX HB.out)⟩⟩
   by_cases c19:((rd_T108 l0_2 a1).f2)=true
   case neg =>
    rw[if_neg c19] at H
    have c19b0:((rd_T108 l0_2 a1).f2)=false:=by simpa using c19
    clear c19
    obtain rfl:=sI H
    have hnbx1:=NBz1.out
    have hncx1:=NBz2.out
    have hczx1:=cZ8 BKz1.out
    obtain⟨adx1,Ax1,cx1,ex1,px1,qx1,⟨hxx1,hxx2,hxx3,hxx4,hxx5,hxx6,hxx7,hxx8,hxx9⟩,HCx1,HRx1⟩:=at_T80c HR0_4 HB x8_1
    cases ex1
    obtain⟨adx2,Ax2,cx2,ex2,px2,qx2,⟨hxx10,hxx11,hxx12,hxx13,hxx14,hxx15,hxx16,hxx17,hxx18⟩,HCx2,HRx2⟩:=at_T80c HR0_4 HB x8_1
    obtain rfl:adx1=adx2:=(by injection ex2)
    have ea_:=Option.some.inj (hxx9.symm.trans hxx18)
    injection ea_ with ea_ en_ ec_
    subst ea_
    subst ec_
    clear en_
    have hczx9:=cZ5 BKz2.out
    go_wp2
    repeat (go_quiet (fail);try go_wp2)
    go_ret
    exact⟨rE,(hX HB.out)⟩
   rw[if_pos c19] at H
   have c19b0:((rd_T108 l0_2 a1).f2)=true:=c19
   clear c19
   revert H;refine eN ?_ ?_<;>intro c20b0 c20b1 H
   ·obtain rfl:=sI H
    have hnbx1:=NBz1.out
    have hncx1:=NBz2.out
    have hczx1:=cZ8 BKz1.out
    obtain⟨adx1,Ax1,cx1,ex1,px1,qx1,⟨hxx1,hxx2,hxx3,hxx4,hxx5,hxx6,hxx7,hxx8,hxx9⟩,HCx1,HRx1⟩:=at_T80c HR0_4 HB x8_1
    cases ex1
    obtain⟨adx2,Ax2,cx2,ex2,px2,qx2,⟨hxx10,hxx11,hxx12,hxx13,hxx14,hxx15,hxx16,hxx17,hxx18⟩,HCx2,HRx2⟩:=at_T80c HR0_4 HB x8_1
    obtain rfl:adx1=adx2:=(by injection ex2)
    have ea_:=Option.some.inj (hxx9.symm.trans hxx18)
    injection ea_ with ea_ en_ ec_
    subst ea_
    subst ec_
    clear en_
    have hczx9:=cZ5 BKz2.out
    go_wp2
    repeat (go_quiet (fail);try go_wp2)
    go_ret
    exact⟨rE,(hX HB.out)⟩
   have H':=aM H
   clear H
   have hnbx1:=NBz1.out
   have hncx1:=NBz2.out
   have hczx1:=cZ8 BKz1.out
   obtain⟨adx1,Ax1,cx1,ex1,px1,qx1,⟨hxx1,hxx2,hxx3,hxx4,hxx5,hxx6,hxx7,hxx8,hxx9⟩,HCx1,HRx1⟩:=at_T80c HR0_4 HB x8_1
   cases ex1
   obtain⟨adx2,Ax2,cx2,ex2,px2,qx2,⟨hxx10,hxx11,hxx12,hxx13,hxx14,hxx15,hxx16,hxx17,hxx18⟩,HCx2,HRx2⟩:=at_T80c HR0_4 HB x8_1
   obtain rfl:adx1=adx2:=(by injection ex2)
   have ea_:=Option.some.inj (hxx9.symm.trans hxx18)
   injection ea_ with ea_ en_ ec_
   subst ea_
   subst ec_
   clear en_
   have hczx9:=cZ5 BKz2.out
   generalize hvb_:Value.bool ((rd_T108 l0_2 a1).f2)=vb_
   have HVb_:=aM hvb_
   clear hvb_
   go_wp2
   repeat (go_quiet (fail);try go_wp2)
   have hvb_:=HVb_.out
   clear HVb_
   subst hvb_
   go_roundg k1
   case measure=>have:=HKy1.out;omega
   case rel=>exact⟨(x7_1),(wrap64 (x8_1+1)),rS,rS,H',⟨by have:=HKy1.out;omega⟩,⟨(bX BKz1.out)⟩,⟨(bX BKz2.out)⟩,⟨(hX HB.out)⟩⟩
end Go.Proofs.YthejoblnfpaojaaGreat.P
namespace Go.Proofs.YthejoblnfpaojaaGreat.P
open Go.Proofs.YthejoblnfpaojaaGreatZ Go.RowKit Go.Proofs.YthejoblnfpaojaaGreatW.PrintWords Go.Proofs.YthejoblnfpaojaaGreatW.PrintLast Go.Proofs.YthejoblnfpaojaaGreatW.PrintMore
attribute [local go_sem] max2_int min2_int max_two min_two max_three min_three max_four min_four   -- for this text's walks alone
def XaE.f (k:Nat) (a0_0:Int) (l0_1:List Int) (a1_0:Int) (l1_1:List Int):Option (Bool):=if a0_0=a1_0 then ((XA.f k l0_1 l1_1).bind fun t103=>(some t103)) else (some false)
theorem XaE.calls (k:Nat) (a0_0:Int) (A0_1:Option Addr) (c0_1:Nat) (l0_1:List Int) (a1_0:Int) (A1_1:Option Addr) (c1_1:Nat) (l1_1:List Int) (r:Bool) (w:World) (h0_1:Rw (Kd.int .i64) w A0_1 c0_1 l0_1) (h1_1:Rw (Kd.int .i64) w A1_1 c1_1 l1_1) (H:XaE.f k a0_0 l0_1 a1_0 l1_1=some r) :
  Calls Tryz.prog 85 #[.agg #[.int .i64 a0_0,.slice A0_1 l0_1.length c0_1],.agg #[.int .i64 a1_0,.slice A1_1 l1_1.length c1_1]] w fun e w'=>e = .returned (.bool r)∧Below w.heap.size w w':=by
 have hu56:=Tryz.underlying56
 obtain⟨HR0_1,HC0_1⟩:=h0_1
 obtain⟨HR1_1,HC1_1⟩:=h1_1
 have HB:=aM (Below.refl w.heap.size w)
 unfold XaE.f at H
 go_enter Tryz.func85,Tryz.ntmps85
 go_wp2_with (first | (refine boxE 2 #[.int .i64 a0_0,.slice A0_1 l0_1.length c0_1] 56 ?_;intro gbz1 hg wz1 hbox hb;have BKz1:=aM (hbox);have GWz1:=aG hg HB;replace HB:=aS HB hb;clear hb hbox hg) | (refine boxE 3 #[.int .i64 a1_0,.slice A1_1 l1_1.length c1_1] 56 ?_;intro gbz2 hg wz2 hbox hb;have BKz2:=aM (hbox);have GWz2:=aG hg HB;have NBz1:=aL hg BKz1;have NBz2:=aR hg BKz1;replace BKz1:=aB BKz1 hb;replace HB:=aS HB hb;clear hb hbox hg;have hnbz1:=nB NBz1 NBz2;have hczz1:=cZ2 BKz1.out;have hczz3:=cZ2 BKz2.out;refine Stop.out ?_))
 refine⟨?_⟩
 revert H;refine eN ?_ ?_<;>intro c3b0 c3b1 H
 ·obtain rfl:=sI H
  exact fS
 replace H:=bE H;obtain⟨t103,A4,H⟩:=H
 obtain rfl:=sI H
 go_wp2_with (go_at_call 140;(with_reducible refine(XA.calls _ _ _ _ _ _ _ _ _ (rW HR0_1 HB HC0_1) (rW HR1_1 HB HC1_1) A4.out).mono ?_);rintro e w' ⟨rfl,⟨nd,rfl⟩⟩)
 go_ret
 exact⟨rE,(hX HB.out)⟩
def X2.f (k:Nat) (l0_0:List Int) (a0_1:Int) (a1:Int):Option (Int):=(slices_Index_int_int.f k l0_0 a1).bind fun t102=>(some t102)
theorem X2.calls (k:Nat) (A0_0:Option Addr) (c0_0:Nat) (l0_0:List Int) (a0_1:Int) (a1:Int) (r:Int) (w:World) (h0_0:Rw (Kd.int .i64) w A0_0 c0_0 l0_0) (H:X2.f k l0_0 a0_1 a1=some r) :
  Calls Tryz.prog 197 #[.agg #[.slice A0_0 l0_0.length c0_0,.int .i64 a0_1],.int .i64 a1] w fun e w'=>e = .returned (.int .i64 r)∧Below w.heap.size w w':=by
 have hu26:=Tryz.underlying26
 obtain⟨HR0_0,HC0_0⟩:=h0_0
 have HB:=aM (Below.refl w.heap.size w)
 unfold X2.f at H
 replace H:=bE H;obtain⟨t102,A3,H⟩:=H
 obtain rfl:=sI H
 go_enter Tryz.func197,Tryz.ntmps197
 go_wp2_with (first | (refine boxE 2 #[.slice A0_0 l0_0.length c0_0,.int .i64 a0_1] 26 ?_;intro gbz1 hg wz1 hbox hb;have BKz1:=aM (hbox);have GWz1:=aG hg HB;replace HB:=aS HB hb;clear hb hbox hg;have hczz1:=cZ2 BKz1.out) | (refine gD 190 8 Tryz.func190 (slices_Index_int_int.calls _ _ _ _ _ _ _ (cC HR0_0.out HB.out) HC0_0.out A3.out) ?_;intro nd))
 go_ret
 exact⟨rE,(hX HB.out)⟩
def XaF.f (k:Nat) (l0:List (S51)) (l1:List (S58)) (a2:Int):Option (Int):=(Xe.f a2 0 (wrap64 ((l0.length:Int) - 1))).bind fun t101=>(if t101=true then (if 0≤a2 then (if a2<(l0.length:Int) then (if ((rd_T51 l0 a2).f1)=0 then (some ((rd_T51 l0 a2).f0)) else ((Xe.f ((rd_T51 l0 a2).f1) 1 (l1.length:Int)).bind fun t104=>(if t104=true then (if 0≤(wrap64 (((rd_T51 l0 a2).f1) - 1)) then (if (wrap64 (((rd_T51 l0 a2).f1) - 1))<(l1.length:Int) then ((XN.f k ((rd_T58 l1 (wrap64 (((rd_T51 l0 a2).f1) - 1))).f0) ((rd_T58 l1 (wrap64 (((rd_T51 l0 a2).f1) - 1))).f1) ((rd_T58 l1 (wrap64 (((rd_T51 l0 a2).f1) - 1))).f2) ((rd_T58 l1 (wrap64 (((rd_T51 l0 a2).f1) - 1))).f3.f0) ((rd_T58 l1 (wrap64 (((rd_T51 l0 a2).f1) - 1))).f3.f1) a2).bind fun bt107=>(if ((rd_T58 l1 (wrap64 (((rd_T51 l0 a2).f1) - 1))).f0)=((rd_T51 l0 a2).f2) then (if ((rd_T58 l1 (wrap64 (((rd_T51 l0 a2).f1) - 1))).f1)=2 then (some bt107.2.2.1) else (some bt107.2.1)) else (some bt107.2.1))) else (none)) else (none)) else (some 0)))) else (none)) else (none)) else (some 0))
theorem XaF.calls (k:Nat) (A0:Option Addr) (c0:Nat) (l0:List (S51)) (A1:Option Addr) (c1:Nat) (l1:List (S58)) (a2:Int) (r:Int) (w:World) (h0:Rw k51 w A0 c0 l0) (h1:Rw k58 w A1 c1 l1) (H:XaF.f k l0 l1 a2=some r) :
  Calls Tryz.prog 35 #[.slice A0 l0.length c0,.slice A1 l1.length c1,.int .i64 a2] w fun e w'=>e = .returned (.int .i64 r)∧Below w.heap.size w w':=by
 have hu51:=Tryz.underlying51
 have hu58:=Tryz.underlying58
 have hu63:=Tryz.underlying63
 obtain⟨HR0,HC0⟩:=h0
 obtain⟨HR1,HC1⟩:=h1
 have HB:=aM (Below.refl w.heap.size w)
 unfold XaF.f at H
 replace H:=bE H;obtain⟨t101,A4,H⟩:=H
 go_enter Tryz.func35,Tryz.ntmps35
 cases t101
 case false =>
  rw[if_neg nft] at H
  obtain rfl:=sI H
  go_wp2_with (refine gD 88 15 Tryz.func88 (Xe.calls _ _ _ _ _ A4.out) ?_;intro nd)
  go_ret
  exact⟨rE,(hX HB.out)⟩
 rw[if_pos rfl] at H
 replace H:=ifQ H;obtain⟨c6b0,H⟩:=H
 replace H:=ifQ H;obtain⟨c7b0,H⟩:=H
 go_wp2_with (first | (refine gD 88 15 Tryz.func88 (Xe.calls _ _ _ _ _ A4.out) ?_;intro nd;have pz1:0≤(a2:Int):=odA;have qz1:a2<(l0.length:Int):=odA;obtain⟨adz1,ez1,hxz1,hxz2,hxz3⟩:=at_T51 HR0.out a2 pz1 qz1;cases ez1;replace pz1:=eq_true pz1;replace qz1:=eq_true qz1) | (refine boxE 7 #[.int .i64 0,.int .i64 0,.int .i64 0] 51 ?_;intro gbz1 hg wz1 hbox hb;have BKz1:=aM (hbox);have GWz1:=aG hg HB;replace HB:=aS HB hb;clear hb hbox hg;have hczz1:=cZ3 BKz1.out;refine Stop.out ?_))
 refine⟨?_⟩
 revert H;refine eP ?_ ?_<;>intro c8b0 c8b1 H
 ·obtain rfl:=sI H
  exact fS
 replace H:=bE H;obtain⟨t104,A11,H⟩:=H
 cases t104
 case false =>
  rw[if_neg nft] at H
  obtain rfl:=sI H
  go_wp2_with (refine gD 88 30 Tryz.func88 (Xe.calls _ _ _ _ _ A11.out) ?_;intro nd)
  go_ret
  exact⟨rE,(hX HB.out)⟩
 rw[if_pos rfl] at H
 obtain⟨ji13,hji13⟩:∃ j_:Int,(wrap64 (((rd_T51 l0 a2).f1) - 1))=j_:=⟨_,rfl⟩
 replace H:(if 0≤(ji13) then (if (ji13)<(l1.length:Int) then ((XN.f k ((rd_T58 l1 (ji13)).f0) ((rd_T58 l1 (ji13)).f1) ((rd_T58 l1 (ji13)).f2) ((rd_T58 l1 (ji13)).f3.f0) ((rd_T58 l1 (ji13)).f3.f1) a2).bind fun bt107=>(if ((rd_T58 l1 (ji13)).f0)=((rd_T51 l0 a2).f2) then (if ((rd_T58 l1 (ji13)).f1)=2 then (some bt107.2.2.1) else (some bt107.2.1)) else (some bt107.2.1))) else (none)) else (none))=some r:=by first | (rw[hji13] at H;exact H) | (simp only[hji13] at H ⊢;exact H)
 (try rw[hji13] at A4)
 (try rw[hji13] at A11)
 have hji13w:(IntKind.i64.wrap (((rd_T51 l0 a2).f1) - 1))=ji13:=(i64_w _).trans hji13
 replace H:=ifQ H;obtain⟨c14b0,H⟩:=H
 replace H:=ifQ H;obtain⟨c15b0,H⟩:=H
 replace H:=bE H;obtain⟨⟨t107,t108,t109,t110⟩,A16,H⟩:=H
 try dsimp only at H
 go_wp2_with (first | (refine gD 88 30 Tryz.func88 (Xe.calls _ _ _ _ _ A11.out) ?_;intro nd;have pz2:0≤((ji13):Int):=odA;have qz2:(ji13)<(l1.length:Int):=odA;obtain⟨adz2,Az1,cz1,Az2,cz2,ez2,hxz4,hxz5,hxz6,hxz7,hxz8,hlz1,hiz1,hlz2,hiz2⟩:=at_T58 HR1.out (ji13) pz2 qz2;cases ez2;have hnz1:adz2.block ≠ gbz1:=Nat.ne_of_lt (Nat.lt_of_lt_of_le (by have:=World.block_lt_of_cell? _ _ hxz4;first | rwa [add_block] at this | exact this) GWz1.out);have hnz2:adz2.block ≠ gbz1:=Nat.ne_of_lt (Nat.lt_of_lt_of_le (by have:=World.block_lt_of_cell? _ _ hxz4;first | rwa [add_block] at this | exact this) GWz1.out);have hnz3:adz2.block ≠ gbz1:=Nat.ne_of_lt (Nat.lt_of_lt_of_le (by have:=World.block_lt_of_cell? _ _ hxz4;first | rwa [add_block] at this | exact this) GWz1.out);replace hxz4:=bc HB.out hxz4;replace hxz5:=bc HB.out hxz5;replace hxz6:=bc HB.out hxz6;replace hxz7:=bc HB.out hxz7;replace hxz8:=bc HB.out hxz8;have HRz1:=aM hiz1;have HCz1:=aM hlz1;clear hiz1 hlz1;have HRz2:=aM hiz2;have HCz2:=aM hlz2;clear hiz2 hlz2;replace hxz4:=(cell_far (p:=⟨gbz1,0,none⟩) (by first | (rw[add_block];exact hnz1) | (show (Addr.add _ _).block ≠ _;rw[add_block];exact hnz1) | exact hnz1) (.int .i64 ((rd_T51 l0 a2).f0))).trans hxz4;replace hxz5:=(cell_far (p:=⟨gbz1,0,none⟩) (by first | (rw[add_block];exact hnz1) | (show (Addr.add _ _).block ≠ _;rw[add_block];exact hnz1) | exact hnz1) (.int .i64 ((rd_T51 l0 a2).f0))).trans hxz5;replace hxz6:=(cell_far (p:=⟨gbz1,0,none⟩) (by first | (rw[add_block];exact hnz1) | (show (Addr.add _ _).block ≠ _;rw[add_block];exact hnz1) | exact hnz1) (.int .i64 ((rd_T51 l0 a2).f0))).trans hxz6;replace hxz7:=(cell_far (p:=⟨gbz1,0,none⟩) (by first | (rw[add_block];exact hnz1) | (show (Addr.add _ _).block ≠ _;rw[add_block];exact hnz1) | exact hnz1) (.int .i64 ((rd_T51 l0 a2).f0))).trans hxz7;replace hxz8:=(cell_far (p:=⟨gbz1,0,none⟩) (by first | (rw[add_block];exact hnz1) | (show (Addr.add _ _).block ≠ _;rw[add_block];exact hnz1) | exact hnz1) (.int .i64 ((rd_T51 l0 a2).f0))).trans hxz8;replace hxz4:=(cell_far (p:=⟨gbz1,1,none⟩) (by first | (rw[add_block];exact hnz2) | (show (Addr.add _ _).block ≠ _;rw[add_block];exact hnz2) | exact hnz2) (.int .i64 ((rd_T51 l0 a2).f1))).trans hxz4;replace hxz5:=(cell_far (p:=⟨gbz1,1,none⟩) (by first | (rw[add_block];exact hnz2) | (show (Addr.add _ _).block ≠ _;rw[add_block];exact hnz2) | exact hnz2) (.int .i64 ((rd_T51 l0 a2).f1))).trans hxz5;replace hxz6:=(cell_far (p:=⟨gbz1,1,none⟩) (by first | (rw[add_block];exact hnz2) | (show (Addr.add _ _).block ≠ _;rw[add_block];exact hnz2) | exact hnz2) (.int .i64 ((rd_T51 l0 a2).f1))).trans hxz6;replace hxz7:=(cell_far (p:=⟨gbz1,1,none⟩) (by first | (rw[add_block];exact hnz2) | (show (Addr.add _ _).block ≠ _;rw[add_block];exact hnz2) | exact hnz2) (.int .i64 ((rd_T51 l0 a2).f1))).trans hxz7;replace hxz8:=(cell_far (p:=⟨gbz1,1,none⟩) (by first | (rw[add_block];exact hnz2) | (show (Addr.add _ _).block ≠ _;rw[add_block];exact hnz2) | exact hnz2) (.int .i64 ((rd_T51 l0 a2).f1))).trans hxz8;replace hxz4:=(cell_far (p:=⟨gbz1,2,none⟩) (by first | (rw[add_block];exact hnz3) | (show (Addr.add _ _).block ≠ _;rw[add_block];exact hnz3) | exact hnz3) (.int .i64 ((rd_T51 l0 a2).f2))).trans hxz4;replace hxz5:=(cell_far (p:=⟨gbz1,2,none⟩) (by first | (rw[add_block];exact hnz3) | (show (Addr.add _ _).block ≠ _;rw[add_block];exact hnz3) | exact hnz3) (.int .i64 ((rd_T51 l0 a2).f2))).trans hxz5;replace hxz6:=(cell_far (p:=⟨gbz1,2,none⟩) (by first | (rw[add_block];exact hnz3) | (show (Addr.add _ _).block ≠ _;rw[add_block];exact hnz3) | exact hnz3) (.int .i64 ((rd_T51 l0 a2).f2))).trans hxz6;replace hxz7:=(cell_far (p:=⟨gbz1,2,none⟩) (by first | (rw[add_block];exact hnz3) | (show (Addr.add _ _).block ≠ _;rw[add_block];exact hnz3) | exact hnz3) (.int .i64 ((rd_T51 l0 a2).f2))).trans hxz7;replace hxz8:=(cell_far (p:=⟨gbz1,2,none⟩) (by first | (rw[add_block];exact hnz3) | (show (Addr.add _ _).block ≠ _;rw[add_block];exact hnz3) | exact hnz3) (.int .i64 ((rd_T51 l0 a2).f2))).trans hxz8;clear hnz1;clear hnz2;clear hnz3;replace pz2:=eq_true pz2;replace qz2:=eq_true qz2) | (refine boxE 8 #[.int .i64 0,.int .i64 0,.slice none 0 0,.int .i64 0,.slice none 0 0] 58 ?_;intro gbz2 hg wz2 hbox hb;have BKz2:=aM (hbox);have GWz2:=aG hg HB;have NBz1:=aM (gL hg (bP BKz1.out));have NBz2:=aM (gG hg (bP BKz1.out));replace BKz1:=aM (blk_below (g:=gbz1) (o:=.cells #[.int .i64 ((rd_T51 l0 a2).f0),.int .i64 ((rd_T51 l0 a2).f1),.int .i64 ((rd_T51 l0 a2).f2)] 51 (0,0)) (bP BKz1.out) hb);replace HB:=aS HB hb;clear hb hbox hg;have hnbz1:=nB NBz2 NBz1;have hczz4:=cZ5 BKz2.out) | ((with_reducible refine gate_callee (f:=24) rfl ?_);refine goesL_ (some 41) rfl rfl Tryz.func24 (by kernel_rfl) rfl #[.agg #[.int .i64 ((rd_T58 l1 (ji13)).f0),.int .i64 ((rd_T58 l1 (ji13)).f1),.slice Az1 ((rd_T58 l1 (ji13)).f2).length cz1,.int .i64 ((rd_T58 l1 (ji13)).f3.f0),.slice Az2 ((rd_T58 l1 (ji13)).f3.f1).length cz2],.int .i64 a2] rfl (by (try simp only[List.map_toArray,List.map_cons,List.map_nil]);first | done | (simp only[hji13];rfl) | rfl | (simp only[List.length_drop,List.length_take];rfl)) ?_;(with_reducible refine(XN.calls k ((rd_T58 l1 (ji13)).f0) ((rd_T58 l1 (ji13)).f1) _ _ ((rd_T58 l1 (ji13)).f2) ((rd_T58 l1 (ji13)).f3.f0) _ _ ((rd_T58 l1 (ji13)).f3.f1) a2 t107 t108 t109 t110 _ (rW HRz1 HB HCz1) (rW HRz2 HB HCz2) A16.out).mono ?_);rintro e wz3 ⟨rfl,hb⟩;refine⟨_,rfl,?_⟩;replace BKz1:=aF BKz1 hb;replace BKz2:=aM (blk_below (g:=gbz2) (o:=.cells #[.int .i64 ((rd_T58 l1 (ji13)).f0),.int .i64 ((rd_T58 l1 (ji13)).f1),.slice Az1 ((rd_T58 l1 (ji13)).f2).length cz1,.int .i64 ((rd_T58 l1 (ji13)).f3.f0),.slice Az2 ((rd_T58 l1 (ji13)).f3.f1).length cz2] 58 (0,0)) (bP BKz2.out) hb);replace HB:=aS HB hb;clear hb) | (refine boxE 9 #[.int .i64 0,.int .i64 0,.int .i64 0] 63 ?_;intro gbz3 hg wz4 hbox hb;have BKz3:=aM (hbox);have GWz3:=aG hg HB;have NBz3:=aL hg BKz1;have NBz4:=aR hg BKz1;have NBz5:=aM ((by rw[hg];exact Nat.ne_of_lt (blk_lt (g:=gbz2) (o:=.cells #[.int .i64 ((rd_T58 l1 (ji13)).f0),.int .i64 ((rd_T58 l1 (ji13)).f1),.slice Az1 ((rd_T58 l1 (ji13)).f2).length cz1,.int .i64 ((rd_T58 l1 (ji13)).f3.f0),.slice Az2 ((rd_T58 l1 (ji13)).f3.f1).length cz2] 58 (0,0)) (bX BKz2.out)):gbz2 ≠ gbz3));have NBz6:=aM ((by rw[hg];exact Nat.ne_of_gt (blk_lt (g:=gbz2) (o:=.cells #[.int .i64 ((rd_T58 l1 (ji13)).f0),.int .i64 ((rd_T58 l1 (ji13)).f1),.slice Az1 ((rd_T58 l1 (ji13)).f2).length cz1,.int .i64 ((rd_T58 l1 (ji13)).f3.f0),.slice Az2 ((rd_T58 l1 (ji13)).f3.f1).length cz2] 58 (0,0)) (bX BKz2.out)):gbz3 ≠ gbz2));replace BKz1:=aB BKz1 hb;replace BKz2:=aM (blk_below (g:=gbz2) (o:=.cells #[.int .i64 ((rd_T58 l1 (ji13)).f0),.int .i64 ((rd_T58 l1 (ji13)).f1),.slice Az1 ((rd_T58 l1 (ji13)).f2).length cz1,.int .i64 ((rd_T58 l1 (ji13)).f3.f0),.slice Az2 ((rd_T58 l1 (ji13)).f3.f1).length cz2] 58 (0,0)) (bX BKz2.out) hb);replace HB:=aS HB hb;clear hb hbox hg;have hnbz2:=nB NBz4 NBz3;have hnbz3:=nB NBz6 NBz5;have hczz9:=cZ3 BKz3.out;have hczz12:=cZ5 BKz2.out;have hczz17:=cZ3 BKz1.out;refine Stop.out ?_))
 refine⟨?_⟩
 revert H;refine eN ?_ ?_<;>intro c17b0 c17b1 H
 ·obtain rfl:=sI H
  go_wp2
  go_ret
  exact⟨by first | rfl | (simp[errW_none,errW_some]<;>rfl) | (simp only[← hji13];first | rfl | (simp[errW_none,errW_some]<;>rfl)) | (simp[*,errW_none,errW_some]<;>rfl),(hX HB.out)⟩
 revert H;refine eN ?_ ?_<;>intro c18b0 c18b1 H
 ·obtain rfl:=sI H
  go_wp2
  go_ret
  exact⟨by first | rfl | (simp[errW_none,errW_some]<;>rfl) | (simp only[← hji13];first | rfl | (simp[errW_none,errW_some]<;>rfl)) | (simp[*,errW_none,errW_some]<;>rfl),(hX HB.out)⟩
 obtain rfl:=sI H
 go_wp2
 go_ret
 exact⟨by first | rfl | (simp[errW_none,errW_some]<;>rfl) | (simp only[← hji13];first | rfl | (simp[errW_none,errW_some]<;>rfl)) | (simp[*,errW_none,errW_some]<;>rfl),(hX HB.out)⟩
def Xaa.f (s0_0:List Int) (s0_1:Int) (s0_2:Int):Option (Int × Int × Int):=if s0_1<(s0_0.length:Int) then (if 0≤s0_1 then (some (Go.bits .and .i64 (wrap64 ((Go.bits .and .i64 (Go.bits .xor .i64 ((wrap64 ((wrap64 (s0_2 * 6364136223846793005))+1442695040888963407)) / 8589934592) ((wrap64 ((wrap64 (s0_2 * 6364136223846793005))+1442695040888963407)) / 35184372088832)) 255)+(wrap64 (rd s0_0 s0_1)))) 255,wrap64 (s0_1+1),wrap64 ((wrap64 (s0_2 * 6364136223846793005))+1442695040888963407))) else (none)) else (some (Go.bits .and .i64 (Go.bits .xor .i64 ((wrap64 ((wrap64 (s0_2 * 6364136223846793005))+1442695040888963407)) / 8589934592) ((wrap64 ((wrap64 (s0_2 * 6364136223846793005))+1442695040888963407)) / 35184372088832)) 255,s0_1,wrap64 ((wrap64 (s0_2 * 6364136223846793005))+1442695040888963407)))
theorem Xaa.calls (g:Nat) (s0_0:List Int) (s0_1:Int) (s0_2:Int) (r1:Int) (r2:Int) (r3:Int) (w0 w:World) (hI:IsS146 w0 w g s0_0 s0_1 s0_2) (hB:Below w0.heap.size w0 w) (H:Xaa.f s0_0 s0_1 s0_2=some (r1,r2,r3)) :
  Calls Tryz.prog 143 #[.pointer (some ⟨g,0,none⟩)] w fun e w'=>e = .returned (.int .i64 r1)∧IsS146 w0 w' g s0_0 r2 r3∧Below w0.heap.size w0 w'∧KeepBut w w' g none:=by
 have HI0:=aM hI
 have HK:=aM (KeepBut.refl w g none)
 have HL:=aM hB.size
 clear hI
 have HW0:=aM hB.size
 have HB:=aM hB
 clear hB
 unfold Xaa.f at H
 revert H;refine iN ?_ ?_<;>intro c2b0 H
 ·simp only[Option.some.injEq,Prod.mk.injEq] at H
  obtain⟨rfl,rfl,rfl⟩:=H
  obtain⟨ASzz1,cSzz1,HGzz1,hgzz1,HSzz1⟩:=HI0.out
  have hczz1:=cellS146_0 HGzz1
  have hczz2:=cellS146_1 HGzz1
  have hczz3:=cellS146_2 HGzz1
  have hfzz1:=blk_frozen HGzz1 1
  have hfzz2:=blk_frozen HGzz1 2
  clear HGzz1 hgzz1
  go_enter Tryz.func143,Tryz.ntmps143
  go_wp2
  repeat (go_quiet (fail);try go_wp2)
  go_ret
  exact⟨rE,(i146 HI0.out),(hY HB.out (IsS146.ge HI0.out)),(kX HK.out)⟩
 replace H:=ifQ H;obtain⟨c3b0,H⟩:=H
 simp only[Option.some.injEq,Prod.mk.injEq] at H
 obtain⟨rfl,rfl,rfl⟩:=H
 obtain⟨ASzz1,cSzz1,HGzz1,hgzz1,HSzz1⟩:=HI0.out
 have hczz1:=cellS146_0 HGzz1
 have hczz2:=cellS146_1 HGzz1
 have hczz3:=cellS146_2 HGzz1
 have hfzz1:=blk_frozen HGzz1 1
 have hfzz2:=blk_frozen HGzz1 2
 clear HGzz1 hgzz1
 have pz1:0≤(s0_1:Int):=odA
 have qz1:s0_1<(s0_0.length:Int):=odA
 obtain⟨adz1,ez1,hxz1⟩:=Kd.at_int HSzz1 s0_1 pz1 qz1
 cases ez1
 have hnz1:adz1.block ≠ g:=Nat.ne_of_lt (Nat.lt_of_lt_of_le (by have:=World.block_lt_of_cell? _ _ hxz1;first | rwa [add_block] at this | exact this) (IsS146.ge HI0.out))
 replace hxz1:=pw_cell_below HB.out hxz1
 replace hxz1:=(cell_far (p:=⟨g,2,none⟩) (by first | (rw[add_block];exact hnz1) | (show (Addr.add _ _).block ≠ _;rw[add_block];exact hnz1) | exact hnz1) (.int .i64 (wrap64 ((wrap64 (s0_2 * 6364136223846793005))+1442695040888963407)))).trans hxz1
 (try have hy101_0:=fun(n_:Nat)=>(show (((w.drewN n_).setCell ⟨g,2,none⟩ (.int .i64 (wrap64 ((wrap64 (s0_2 * 6364136223846793005))+1442695040888963407))))).cell? _=some _ from hxz1))
 clear hnz1
 replace pz1:=eq_true pz1
 replace qz1:=eq_true qz1
 go_enter Tryz.func143,Tryz.ntmps143
 go_wp2
 repeat (go_quiet (fail);try go_wp2)
 go_ret
 exact⟨rE,(i146 HI0.out),(hY HB.out (IsS146.ge HI0.out)),(kX HK.out)⟩
end Go.Proofs.YthejoblnfpaojaaGreat.P
namespace Go.Proofs.YthejoblnfpaojaaGreat.P
open Go.RowKit Go.Proofs.YthejoblnfpaojaaGreatW.PrintWords Go.Proofs.YthejoblnfpaojaaGreatW.PrintLast Go.Proofs.YthejoblnfpaojaaGreatZ
theorem rdI_w {l:List Int} {i:Nat} (h:i<l.length):rd l (i:Int)=l[i]:=rd_get (List.getElem?_eq_getElem h)
theorem drop_eq_iff {x y:List Int} {i:Nat} (hx:i<x.length) (hy:i<y.length):x.drop i=y.drop i ↔ (rd x (i:Int)=rd y (i:Int)∧x.drop (i+1)=y.drop (i+1)):=by
 rw[List.drop_eq_getElem_cons hx,List.drop_eq_getElem_cons hy,rdI_w hx,rdI_w hy]
 exact List.cons_eq_cons
theorem equal_ev (x y:List Int) (hx:x.length≤9223372036854775807):Ev (fun k=>slices_Equal_int_int.f k x y) (decide (x=y)):=by
 simp only[slices_Equal_int_int.f]
 by_cases h:(x.length:Int)=(y.length:Int)
 ·have hl:x.length=y.length:=by omega
  refine Ev.pos h ?_
  have key:∀ i:Nat,i≤x.length→∃ r:Bool,(r=true ↔ x.drop i=y.drop i)∧Ev (fun k=>slices_Equal_int_int.l0 k x y (x.length:Int) (i:Int)) r:=by
   refine back ?_ fun i hi ih => ?_
   ·refine⟨true,?_,Ev.shift ?_⟩
    ·rw[List.drop_length,List.drop_eq_nil_of_le (by omega)];simp
    ·simp only[slices_Equal_int_int.l0,Int.lt_irrefl,if_false]
     exact Ev.now _
   ·obtain⟨r,h1,h2⟩:=ih
    have c0:(0:Int)≤(i:Int):=by omega
    have c1:(i:Int)<(x.length:Int):=by omega
    have c2:(i:Int)<(y.length:Int):=by omega
    have hd:=drop_eq_iff (x:=x) (y:=y) hi (by omega)
    by_cases he:rd x (i:Int)=rd y (i:Int)
    ·refine⟨r,by rw[h1,hd];exact⟨fun a=>⟨he,a⟩,fun a=>a.2⟩,Ev.shift ?_⟩
     simp only[slices_Equal_int_int.l0,c0,c1,c2,if_true,succ64 hi hx]
     exact Ev.pos he h2
    ·refine⟨false,by rw[hd];exact⟨fun a=>Bool.noConfusion a,fun a=>absurd a.1 he⟩,Ev.shift ?_⟩
     simp only[slices_Equal_int_int.l0,c0,c1,c2,if_true]
     exact Ev.neg he (Ev.now _)
  obtain⟨r,h1,h2⟩:=key 0 (Nat.zero_le _)
  refine h2.to ?_
  rw[List.drop_zero,List.drop_zero] at h1
  rw[Bool.eq_iff_iff,h1,decide_eq_true_iff]
 ·refine Ev.neg h (Ev.val ?_)
  rw[eq_comm,decide_eq_false_iff_not]
  intro e
  rw[e] at h
  exact h rfl
theorem ints_ev (x y:List Int) (hx:x.length≤1048576) (hy:y.length≤1048576):Ev (fun k=>XA.f k x y) (decide (x=y)):=by
 simp only[XA.f]
 have key:∀ i:Nat,i≤x.length→i≤y.length→∃ r:Bool,(r=true ↔ x.drop i=y.drop i)∧Ev (fun k=>XA.l0 k x y (i:Int)) r:=by
  refine back ?_ fun i hi ih => ?_
  ·intro hy2
   refine⟨((x.length:Int) == (y.length:Int)),?_,Ev.shift ?_⟩
   ·rw[List.drop_length,beq_iff_eq]
    constructor
    ·intro e;exact(List.drop_eq_nil_of_le (by omega)).symm
    ·intro e
     have e2:(y.drop x.length).length=0:=by rw[← e];rfl
     rw[List.length_drop] at e2
     omega
   ·simp only[XA.l0,Int.lt_irrefl,if_false]
    refine Ev.shift ?_
    simp only[XA.j1,Bool.false_eq_true,if_false]
    exact Ev.now _
  ·intro hy2
   have c0:(0:Int)≤(i:Int):=by omega
   have c1:(i:Int)<(x.length:Int):=by omega
   by_cases hyi:i<y.length
   ·have c2:(i:Int)<(y.length:Int):=by omega
    obtain⟨r,h1,h2⟩:=ih (by omega)
    have hd:=drop_eq_iff (x:=x) (y:=y) hi hyi
    by_cases he:rd x (i:Int)=rd y (i:Int)
    ·refine⟨r,by rw[h1,hd];exact⟨fun a=>⟨he,a⟩,fun a=>a.2⟩,Ev.shift ?_⟩
     simp only[XA.l0,c1,c2,decide_true,if_true]
     refine Ev.shift ?_
     simp only[XA.j1,c0,c1,c2,if_true,succ64 hi (by omega)]
     exact Ev.pos he h2
    ·refine⟨false,by rw[hd];exact⟨fun a=>Bool.noConfusion a,fun a=>absurd a.1 he⟩,Ev.shift ?_⟩
     simp only[XA.l0,c1,c2,decide_true,if_true]
     refine Ev.shift ?_
     simp only[XA.j1,c0,c1,c2,if_true]
     exact Ev.neg he (Ev.now _)
   ·have c2:¬ (i:Int)<(y.length:Int):=by omega
    refine⟨((x.length:Int) == (y.length:Int)),?_,Ev.shift ?_⟩
    ·rw[beq_iff_eq]
     constructor
     ·intro e;omega
     ·intro e
      have e2:(x.drop i).length=(y.drop i).length:=by rw[e]
      rw[List.length_drop,List.length_drop] at e2
      omega
    ·simp only[XA.l0,c1,c2,decide_false,if_true]
     refine Ev.shift ?_
     simp only[XA.j1,Bool.false_eq_true,if_false]
     exact Ev.now _
 obtain⟨r,h1,h2⟩:=key 0 (Nat.zero_le _) (Nat.zero_le _)
 refine h2.to ?_
 rw[List.drop_zero,List.drop_zero] at h1
 rw[Bool.eq_iff_iff,h1,decide_eq_true_iff]
end Go.Proofs.YthejoblnfpaojaaGreat.P
