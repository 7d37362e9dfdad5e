/- A part of the proof of the law FnExactMachineNew: texts of this seat, merged (words, printed functions of the program, plain lemmas). Conditions: none of its own. -/
import Derived.Test.YtmljebgideecjaaGreatP2kFnExactMachineNew11
import Derived.Test.YtmljebgideecjaaGreatP2kFnExactMachineNew12
set_option linter.unusedSimpArgs false
set_option linter.unusedVariables false
set_option maxHeartbeats 8000000
set_option maxRecDepth 100000
namespace Go.Proofs.YtmljebgideecjaaGreat.P2
open Go.Proofs.YtmljebgideecjaaGreatZ Go.RowKit Go.Proofs.YtmljebgideecjaaGreatW.PrintWords Go.Proofs.YtmljebgideecjaaGreatW.PrintLast Go.Proofs.YtmljebgideecjaaGreatW.PrintMore
attribute [local go_sem] max2_int min2_int max_two min_two max_three min_three max_four min_four   -- for this text's walks alone
def Xab.l0:Nat→List (S73)→Int→Int→Option (Int)
 | 0,_,_,_=>none
 | k+1,x0,x1,x5=>if x5<(x0.length:Int) then (if 0≤x5 then (if ((rd_T73 x0 x5).f0)=x1 then (if ((rd_T73 x0 x5).f1.f0)=(wrap64 (x1+1)) then (if ((rd_T73 x0 x5).f1.f1)=(wrap64 ((wrap64 (x1+1))+1)) then (if ((rd_T73 x0 x5).f1.f2)=(wrap64 ((wrap64 ((wrap64 (x1+1))+1))+1)) then (if ((rd_T73 x0 x5).f2)=(wrap64 ((wrap64 ((wrap64 ((wrap64 (x1+1))+1))+1))+1)) then (if ((rd_T73 x0 x5).f3)=(wrap64 ((wrap64 ((wrap64 ((wrap64 ((wrap64 (x1+1))+1))+1))+1))+1)) then (if ((rd_T73 x0 x5).f4)=(wrap64 ((wrap64 ((wrap64 ((wrap64 ((wrap64 ((wrap64 (x1+1))+1))+1))+1))+1))+1)) then (if ((rd_T73 x0 x5).f5.f0)=(wrap64 ((wrap64 ((wrap64 ((wrap64 ((wrap64 ((wrap64 ((wrap64 (x1+1))+1))+1))+1))+1))+1))+1)) then ((XC.f k ((rd_T73 x0 x5).f5.f1) (wrap64 ((wrap64 ((wrap64 ((wrap64 ((wrap64 ((wrap64 ((wrap64 ((wrap64 (x1+1))+1))+1))+1))+1))+1))+1))+1))).bind fun t110=>(if t110<0 then (some (-1)) else (Xab.l0 k x0 t110 (wrap64 (x5+1))))) else (some (-1))) else (some (-1))) else (some (-1))) else (some (-1))) else (some (-1))) else (some (-1))) else (some (-1))) else (some (-1))) else (none)) else (some x1)
def Xab.f (k:Nat) (l0:List (S73)) (a1:Int):Option (Int):=Xab.l0 k l0 a1 0
theorem Xab.calls (k:Nat) (A0:Option Addr) (c0:Nat) (l0:List (S73)) (a1:Int) (r:Int) (w:World) (h0:Rw k73 w A0 c0 l0) (H:Xab.f k l0 a1=some r) :
  Calls Tryz.prog 78 #[.slice A0 l0.length c0,.int .i64 a1] w fun e w'=>e = .returned (.int .i64 r)∧Drawn0 w w':=by
 obtain⟨HR0,HC0⟩:=h0
 unfold Xab.f at H
 have H':=aM H
 clear H
 go_enter Tryz.func78,Tryz.ntmps78
 go_wp2
 go_loopg [1,5] k (fun kq v1 v5 w'=>∃ (x1_1:Int) (x5_1:Int),v1 = .int .i64 x1_1∧v5 = .int .i64 x5_1∧Aside0 (Xab.l0 kq l0 x1_1 x5_1=some r)∧Aside0 (kq≤k)∧Drawn0 w w')
 case atStart=>exact⟨(a1),(0),rS,rS,H',⟨Nat.le_refl _⟩,dX⟩
 case round =>
  clear H'
  obtain⟨x1_1,x5_1,rfl,rfl,HA,HKy1,⟨my1,rfl⟩⟩:=hrel
  cases gk with
  | zero=>exact absurd HA.out (by simp[Xab.l0])
  | succ k1 =>
   have H:=HA.out
   clear HA
   simp only[Xab.l0] at H
   revert H;refine iN ?_ ?_<;>intro c3b0 H
   ·obtain rfl:=sI H
    go_wp2
    go_ret
    exact⟨by first | rfl | (simp;done) | (simp[*];done),dX⟩
   replace H:=ifQ H;obtain⟨c4b0,H⟩:=H
   revert H;refine eN ?_ ?_<;>intro c5b0 c5b1 H
   ·obtain rfl:=sI H
    have px1:0≤(x5_1:Int):=odA
    have qx1:x5_1<(l0.length:Int):=odA
    obtain⟨adx1,Ax1,cx1,ex1,hxx1,hxx2,hxx3,hxx4,hxx5,hxx6,hxx7,hxx8,hxx9,hlx1,hix1⟩:=at_T73 HR0.out x5_1 px1 qx1
    cases ex1
    have HRx1:=aM hix1
    have HCx1:=aM hlx1
    clear hix1 hlx1
    replace px1:=eq_true px1
    replace qx1:=eq_true qx1
    go_wp2
    go_ret
    exact⟨by first | rfl | (simp;done) | (simp[*];done),dX⟩
   revert H;refine eN ?_ ?_<;>intro c6b0 c6b1 H
   ·obtain rfl:=sI H
    have px1:0≤(x5_1:Int):=odA
    have qx1:x5_1<(l0.length:Int):=odA
    obtain⟨adx1,Ax1,cx1,ex1,hxx1,hxx2,hxx3,hxx4,hxx5,hxx6,hxx7,hxx8,hxx9,hlx1,hix1⟩:=at_T73 HR0.out x5_1 px1 qx1
    cases ex1
    have HRx1:=aM hix1
    have HCx1:=aM hlx1
    clear hix1 hlx1
    replace px1:=eq_true px1
    replace qx1:=eq_true qx1
    have px2:0≤(x5_1:Int):=odA
    have qx2:x5_1<(l0.length:Int):=odA
    obtain⟨adx2,Ax2,cx2,ex2,hxx10,hxx11,hxx12,hxx13,hxx14,hxx15,hxx16,hxx17,hxx18,hlx2,hix2⟩:=at_T73 HR0.out x5_1 px2 qx2
    obtain rfl:adx1=adx2:=(by injection ex2)
    have HRx2:=aM hix2
    have HCx2:=aM hlx2
    clear hix2 hlx2
    replace px2:=eq_true px2
    replace qx2:=eq_true qx2
    have ea_:=Option.some.inj (hxx9.symm.trans hxx18)
    injection ea_ with ea_ en_ ec_
    subst ea_
    subst ec_
    clear en_
    go_wp2
    go_ret
    exact⟨by first | rfl | (simp;done) | (simp[*];done),dX⟩
   revert H;refine eN ?_ ?_<;>intro c7b0 c7b1 H
   ·obtain rfl:=sI H
    have px1:0≤(x5_1:Int):=odA
    have qx1:x5_1<(l0.length:Int):=odA
    obtain⟨adx1,Ax1,cx1,ex1,hxx1,hxx2,hxx3,hxx4,hxx5,hxx6,hxx7,hxx8,hxx9,hlx1,hix1⟩:=at_T73 HR0.out x5_1 px1 qx1
    cases ex1
    have HRx1:=aM hix1
    have HCx1:=aM hlx1
    clear hix1 hlx1
    replace px1:=eq_true px1
    replace qx1:=eq_true qx1
    have px2:0≤(x5_1:Int):=odA
    have qx2:x5_1<(l0.length:Int):=odA
    obtain⟨adx2,Ax2,cx2,ex2,hxx10,hxx11,hxx12,hxx13,hxx14,hxx15,hxx16,hxx17,hxx18,hlx2,hix2⟩:=at_T73 HR0.out x5_1 px2 qx2
    obtain rfl:adx1=adx2:=(by injection ex2)
    have HRx2:=aM hix2
    have HCx2:=aM hlx2
    clear hix2 hlx2
    replace px2:=eq_true px2
    replace qx2:=eq_true qx2
    have ea_:=Option.some.inj (hxx9.symm.trans hxx18)
    injection ea_ with ea_ en_ ec_
    subst ea_
    subst ec_
    clear en_
    have px3:0≤(x5_1:Int):=odA
    have qx3:x5_1<(l0.length:Int):=odA
    obtain⟨adx3,Ax3,cx3,ex3,hxx19,hxx20,hxx21,hxx22,hxx23,hxx24,hxx25,hxx26,hxx27,hlx3,hix3⟩:=at_T73 HR0.out x5_1 px3 qx3
    obtain rfl:adx1=adx3:=(by injection ex3)
    have HRx3:=aM hix3
    have HCx3:=aM hlx3
    clear hix3 hlx3
    replace px3:=eq_true px3
    replace qx3:=eq_true qx3
    have ea_:=Option.some.inj (hxx9.symm.trans hxx27)
    injection ea_ with ea_ en_ ec_
    subst ea_
    subst ec_
    clear en_
    go_wp2
    go_ret
    exact⟨by first | rfl | (simp;done) | (simp[*];done),dX⟩
   revert H;refine eN ?_ ?_<;>intro c8b0 c8b1 H
   ·obtain rfl:=sI H
    have px1:0≤(x5_1:Int):=odA
    have qx1:x5_1<(l0.length:Int):=odA
    obtain⟨adx1,Ax1,cx1,ex1,hxx1,hxx2,hxx3,hxx4,hxx5,hxx6,hxx7,hxx8,hxx9,hlx1,hix1⟩:=at_T73 HR0.out x5_1 px1 qx1
    cases ex1
    have HRx1:=aM hix1
    have HCx1:=aM hlx1
    clear hix1 hlx1
    replace px1:=eq_true px1
    replace qx1:=eq_true qx1
    have px2:0≤(x5_1:Int):=odA
    have qx2:x5_1<(l0.length:Int):=odA
    obtain⟨adx2,Ax2,cx2,ex2,hxx10,hxx11,hxx12,hxx13,hxx14,hxx15,hxx16,hxx17,hxx18,hlx2,hix2⟩:=at_T73 HR0.out x5_1 px2 qx2
    obtain rfl:adx1=adx2:=(by injection ex2)
    have HRx2:=aM hix2
    have HCx2:=aM hlx2
    clear hix2 hlx2
    replace px2:=eq_true px2
    replace qx2:=eq_true qx2
    have ea_:=Option.some.inj (hxx9.symm.trans hxx18)
    injection ea_ with ea_ en_ ec_
    subst ea_
    subst ec_
    clear en_
    have px3:0≤(x5_1:Int):=odA
    have qx3:x5_1<(l0.length:Int):=odA
    obtain⟨adx3,Ax3,cx3,ex3,hxx19,hxx20,hxx21,hxx22,hxx23,hxx24,hxx25,hxx26,hxx27,hlx3,hix3⟩:=at_T73 HR0.out x5_1 px3 qx3
    obtain rfl:adx1=adx3:=(by injection ex3)
    have HRx3:=aM hix3
    have HCx3:=aM hlx3
    clear hix3 hlx3
    replace px3:=eq_true px3
    replace qx3:=eq_true qx3
    have ea_:=Option.some.inj (hxx9.symm.trans hxx27)
    injection ea_ with ea_ en_ ec_
    subst ea_
    subst ec_
    clear en_
    have px4:0≤(x5_1:Int):=odA
    have qx4:x5_1<(l0.length:Int):=odA
    obtain⟨adx4,Ax4,cx4,ex4,hxx28,hxx29,hxx30,hxx31,hxx32,hxx33,hxx34,hxx35,hxx36,hlx4,hix4⟩:=at_T73 HR0.out x5_1 px4 qx4
    obtain rfl:adx1=adx4:=(by injection ex4)
    have HRx4:=aM hix4
    have HCx4:=aM hlx4
    clear hix4 hlx4
    replace px4:=eq_true px4
    replace qx4:=eq_true qx4
    have ea_:=Option.some.inj (hxx9.symm.trans hxx36)
    injection ea_ with ea_ en_ ec_
    subst ea_
    subst ec_
    clear en_
    go_wp2
    go_ret
    exact⟨by first | rfl | (simp;done) | (simp[*];done),dX⟩
   revert H;refine eN ?_ ?_<;>intro c9b0 c9b1 H
   ·obtain rfl:=sI H
    have px1:0≤(x5_1:Int):=odA
    have qx1:x5_1<(l0.length:Int):=odA
    obtain⟨adx1,Ax1,cx1,ex1,hxx1,hxx2,hxx3,hxx4,hxx5,hxx6,hxx7,hxx8,hxx9,hlx1,hix1⟩:=at_T73 HR0.out x5_1 px1 qx1
    cases ex1
    have HRx1:=aM hix1
    have HCx1:=aM hlx1
    clear hix1 hlx1
    replace px1:=eq_true px1
    replace qx1:=eq_true qx1
    have px2:0≤(x5_1:Int):=odA
    have qx2:x5_1<(l0.length:Int):=odA
    obtain⟨adx2,Ax2,cx2,ex2,hxx10,hxx11,hxx12,hxx13,hxx14,hxx15,hxx16,hxx17,hxx18,hlx2,hix2⟩:=at_T73 HR0.out x5_1 px2 qx2
    obtain rfl:adx1=adx2:=(by injection ex2)
    have HRx2:=aM hix2
    have HCx2:=aM hlx2
    clear hix2 hlx2
    replace px2:=eq_true px2
    replace qx2:=eq_true qx2
    have ea_:=Option.some.inj (hxx9.symm.trans hxx18)
    injection ea_ with ea_ en_ ec_
    subst ea_
    subst ec_
    clear en_
    have px3:0≤(x5_1:Int):=odA
    have qx3:x5_1<(l0.length:Int):=odA
    obtain⟨adx3,Ax3,cx3,ex3,hxx19,hxx20,hxx21,hxx22,hxx23,hxx24,hxx25,hxx26,hxx27,hlx3,hix3⟩:=at_T73 HR0.out x5_1 px3 qx3
    obtain rfl:adx1=adx3:=(by injection ex3)
    have HRx3:=aM hix3
    have HCx3:=aM hlx3
    clear hix3 hlx3
    replace px3:=eq_true px3
    replace qx3:=eq_true qx3
    have ea_:=Option.some.inj (hxx9.symm.trans hxx27)
    injection ea_ with ea_ en_ ec_
    subst ea_
    subst ec_
    clear en_
    have px4:0≤(x5_1:Int):=odA
    have qx4:x5_1<(l0.length:Int):=odA
    obtain⟨adx4,Ax4,cx4,ex4,hxx28,hxx29,hxx30,hxx31,hxx32,hxx33,hxx34,hxx35,hxx36,hlx4,hix4⟩:=at_T73 HR0.out x5_1 px4 qx4
    obtain rfl:adx1=adx4:=(by injection ex4)
    have HRx4:=aM hix4
    have HCx4:=aM hlx4
    clear hix4 hlx4
    replace px4:=eq_true px4
    replace qx4:=eq_true qx4
    have ea_:=Option.some.inj (hxx9.symm.trans hxx36)
    injection ea_ with ea_ en_ ec_
    subst ea_
    subst ec_
    clear en_
    have px5:0≤(x5_1:Int):=odA
    have qx5:x5_1<(l0.length:Int):=odA
    obtain⟨adx5,Ax5,cx5,ex5,hxx37,hxx38,hxx39,hxx40,hxx41,hxx42,hxx43,hxx44,hxx45,hlx5,hix5⟩:=at_T73 HR0.out x5_1 px5 qx5
    obtain rfl:adx1=adx5:=(by injection ex5)
    have HRx5:=aM hix5
    have HCx5:=aM hlx5
    clear hix5 hlx5
    replace px5:=eq_true px5
    replace qx5:=eq_true qx5
    have ea_:=Option.some.inj (hxx9.symm.trans hxx45)
    injection ea_ with ea_ en_ ec_
    subst ea_
    subst ec_
    clear en_
    go_wp2
    go_ret
    exact⟨by first | rfl | (simp;done) | (simp[*];done),dX⟩
   revert H;refine eN ?_ ?_<;>intro c10b0 c10b1 H
   ·obtain rfl:=sI H
    have px1:0≤(x5_1:Int):=odA
    have qx1:x5_1<(l0.length:Int):=odA
    obtain⟨adx1,Ax1,cx1,ex1,hxx1,hxx2,hxx3,hxx4,hxx5,hxx6,hxx7,hxx8,hxx9,hlx1,hix1⟩:=at_T73 HR0.out x5_1 px1 qx1
    cases ex1
    have HRx1:=aM hix1
    have HCx1:=aM hlx1
    clear hix1 hlx1
    replace px1:=eq_true px1
    replace qx1:=eq_true qx1
    have px2:0≤(x5_1:Int):=odA
    have qx2:x5_1<(l0.length:Int):=odA
    obtain⟨adx2,Ax2,cx2,ex2,hxx10,hxx11,hxx12,hxx13,hxx14,hxx15,hxx16,hxx17,hxx18,hlx2,hix2⟩:=at_T73 HR0.out x5_1 px2 qx2
    obtain rfl:adx1=adx2:=(by injection ex2)
    have HRx2:=aM hix2
    have HCx2:=aM hlx2
    clear hix2 hlx2
    replace px2:=eq_true px2
    replace qx2:=eq_true qx2
    have ea_:=Option.some.inj (hxx9.symm.trans hxx18)
    injection ea_ with ea_ en_ ec_
    subst ea_
    subst ec_
    clear en_
    have px3:0≤(x5_1:Int):=odA
    have qx3:x5_1<(l0.length:Int):=odA
    obtain⟨adx3,Ax3,cx3,ex3,hxx19,hxx20,hxx21,hxx22,hxx23,hxx24,hxx25,hxx26,hxx27,hlx3,hix3⟩:=at_T73 HR0.out x5_1 px3 qx3
    obtain rfl:adx1=adx3:=(by injection ex3)
    have HRx3:=aM hix3
    have HCx3:=aM hlx3
    clear hix3 hlx3
    replace px3:=eq_true px3
    replace qx3:=eq_true qx3
    have ea_:=Option.some.inj (hxx9.symm.trans hxx27)
    injection ea_ with ea_ en_ ec_
    subst ea_
    subst ec_
    clear en_
    have px4:0≤(x5_1:Int):=odA
    have qx4:x5_1<(l0.length:Int):=odA
    obtain⟨adx4,Ax4,cx4,ex4,hxx28,hxx29,hxx30,hxx31,hxx32,hxx33,hxx34,hxx35,hxx36,hlx4,hix4⟩:=at_T73 HR0.out x5_1 px4 qx4
    obtain rfl:adx1=adx4:=(by injection ex4)
    have HRx4:=aM hix4
    have HCx4:=aM hlx4
    clear hix4 hlx4
    replace px4:=eq_true px4
    replace qx4:=eq_true qx4
    have ea_:=Option.some.inj (hxx9.symm.trans hxx36)
    injection ea_ with ea_ en_ ec_
    subst ea_
    subst ec_
    clear en_
    have px5:0≤(x5_1:Int):=odA
    have qx5:x5_1<(l0.length:Int):=odA
    obtain⟨adx5,Ax5,cx5,ex5,hxx37,hxx38,hxx39,hxx40,hxx41,hxx42,hxx43,hxx44,hxx45,hlx5,hix5⟩:=at_T73 HR0.out x5_1 px5 qx5
    obtain rfl:adx1=adx5:=(by injection ex5)
    have HRx5:=aM hix5
    have HCx5:=aM hlx5
    clear hix5 hlx5
    replace px5:=eq_true px5
    replace qx5:=eq_true qx5
    have ea_:=Option.some.inj (hxx9.symm.trans hxx45)
    injection ea_ with ea_ en_ ec_
    subst ea_
    subst ec_
    clear en_
    have px6:0≤(x5_1:Int):=odA
    have qx6:x5_1<(l0.length:Int):=odA
    obtain⟨adx6,Ax6,cx6,ex6,hxx46,hxx47,hxx48,hxx49,hxx50,hxx51,hxx52,hxx53,hxx54,hlx6,hix6⟩:=at_T73 HR0.out x5_1 px6 qx6
    obtain rfl:adx1=adx6:=(by injection ex6)
    have HRx6:=aM hix6
    have HCx6:=aM hlx6
    clear hix6 hlx6
    replace px6:=eq_true px6
    replace qx6:=eq_true qx6
    have ea_:=Option.some.inj (hxx9.symm.trans hxx54)
    injection ea_ with ea_ en_ ec_
    subst ea_
    subst ec_
    clear en_
    go_wp2
    go_ret
    exact⟨by first | rfl | (simp;done) | (simp[*];done),dX⟩
   revert H;refine eN ?_ ?_<;>intro c11b0 c11b1 H
   ·obtain rfl:=sI H
    have px1:0≤(x5_1:Int):=odA
    have qx1:x5_1<(l0.length:Int):=odA
    obtain⟨adx1,Ax1,cx1,ex1,hxx1,hxx2,hxx3,hxx4,hxx5,hxx6,hxx7,hxx8,hxx9,hlx1,hix1⟩:=at_T73 HR0.out x5_1 px1 qx1
    cases ex1
    have HRx1:=aM hix1
    have HCx1:=aM hlx1
    clear hix1 hlx1
    replace px1:=eq_true px1
    replace qx1:=eq_true qx1
    have px2:0≤(x5_1:Int):=odA
    have qx2:x5_1<(l0.length:Int):=odA
    obtain⟨adx2,Ax2,cx2,ex2,hxx10,hxx11,hxx12,hxx13,hxx14,hxx15,hxx16,hxx17,hxx18,hlx2,hix2⟩:=at_T73 HR0.out x5_1 px2 qx2
    obtain rfl:adx1=adx2:=(by injection ex2)
    have HRx2:=aM hix2
    have HCx2:=aM hlx2
    clear hix2 hlx2
    replace px2:=eq_true px2
    replace qx2:=eq_true qx2
    have ea_:=Option.some.inj (hxx9.symm.trans hxx18)
    injection ea_ with ea_ en_ ec_
    subst ea_
    subst ec_
    clear en_
    have px3:0≤(x5_1:Int):=odA
    have qx3:x5_1<(l0.length:Int):=odA
    obtain⟨adx3,Ax3,cx3,ex3,hxx19,hxx20,hxx21,hxx22,hxx23,hxx24,hxx25,hxx26,hxx27,hlx3,hix3⟩:=at_T73 HR0.out x5_1 px3 qx3
    obtain rfl:adx1=adx3:=(by injection ex3)
    have HRx3:=aM hix3
    have HCx3:=aM hlx3
    clear hix3 hlx3
    replace px3:=eq_true px3
    replace qx3:=eq_true qx3
    have ea_:=Option.some.inj (hxx9.symm.trans hxx27)
    injection ea_ with ea_ en_ ec_
    subst ea_
    subst ec_
    clear en_
    have px4:0≤(x5_1:Int):=odA
    have qx4:x5_1<(l0.length:Int):=odA
    obtain⟨adx4,Ax4,cx4,ex4,hxx28,hxx29,hxx30,hxx31,hxx32,hxx33,hxx34,hxx35,hxx36,hlx4,hix4⟩:=at_T73 HR0.out x5_1 px4 qx4
    obtain rfl:adx1=adx4:=(by injection ex4)
    have HRx4:=aM hix4
    have HCx4:=aM hlx4
    clear hix4 hlx4
    replace px4:=eq_true px4
    replace qx4:=eq_true qx4
    have ea_:=Option.some.inj (hxx9.symm.trans hxx36)
    injection ea_ with ea_ en_ ec_
    subst ea_
    subst ec_
    clear en_
    have px5:0≤(x5_1:Int):=odA
    have qx5:x5_1<(l0.length:Int):=odA
    obtain⟨adx5,Ax5,cx5,ex5,hxx37,hxx38,hxx39,hxx40,hxx41,hxx42,hxx43,hxx44,hxx45,hlx5,hix5⟩:=at_T73 HR0.out x5_1 px5 qx5
    obtain rfl:adx1=adx5:=(by injection ex5)
    have HRx5:=aM hix5
    have HCx5:=aM hlx5
    clear hix5 hlx5
    replace px5:=eq_true px5
    replace qx5:=eq_true qx5
    have ea_:=Option.some.inj (hxx9.symm.trans hxx45)
    injection ea_ with ea_ en_ ec_
    subst ea_
    subst ec_
    clear en_
    have px6:0≤(x5_1:Int):=odA
    have qx6:x5_1<(l0.length:Int):=odA
    obtain⟨adx6,Ax6,cx6,ex6,hxx46,hxx47,hxx48,hxx49,hxx50,hxx51,hxx52,hxx53,hxx54,hlx6,hix6⟩:=at_T73 HR0.out x5_1 px6 qx6
    obtain rfl:adx1=adx6:=(by injection ex6)
    have HRx6:=aM hix6
    have HCx6:=aM hlx6
    clear hix6 hlx6
    replace px6:=eq_true px6
    replace qx6:=eq_true qx6
    have ea_:=Option.some.inj (hxx9.symm.trans hxx54)
    injection ea_ with ea_ en_ ec_
    subst ea_
    subst ec_
    clear en_
    have px7:0≤(x5_1:Int):=odA
    have qx7:x5_1<(l0.length:Int):=odA
    obtain⟨adx7,Ax7,cx7,ex7,hxx55,hxx56,hxx57,hxx58,hxx59,hxx60,hxx61,hxx62,hxx63,hlx7,hix7⟩:=at_T73 HR0.out x5_1 px7 qx7
    obtain rfl:adx1=adx7:=(by injection ex7)
    have HRx7:=aM hix7
    have HCx7:=aM hlx7
    clear hix7 hlx7
    replace px7:=eq_true px7
    replace qx7:=eq_true qx7
    have ea_:=Option.some.inj (hxx9.symm.trans hxx63)
    injection ea_ with ea_ en_ ec_
    subst ea_
    subst ec_
    clear en_
    go_wp2
    go_ret
    exact⟨by first | rfl | (simp;done) | (simp[*];done),dX⟩
   revert H;refine eN ?_ ?_<;>intro c12b0 c12b1 H
   ·obtain rfl:=sI H
    have px1:0≤(x5_1:Int):=odA
    have qx1:x5_1<(l0.length:Int):=odA
    obtain⟨adx1,Ax1,cx1,ex1,hxx1,hxx2,hxx3,hxx4,hxx5,hxx6,hxx7,hxx8,hxx9,hlx1,hix1⟩:=at_T73 HR0.out x5_1 px1 qx1
    cases ex1
    have HRx1:=aM hix1
    have HCx1:=aM hlx1
    clear hix1 hlx1
    replace px1:=eq_true px1
    replace qx1:=eq_true qx1
    have px2:0≤(x5_1:Int):=odA
    have qx2:x5_1<(l0.length:Int):=odA
    obtain⟨adx2,Ax2,cx2,ex2,hxx10,hxx11,hxx12,hxx13,hxx14,hxx15,hxx16,hxx17,hxx18,hlx2,hix2⟩:=at_T73 HR0.out x5_1 px2 qx2
    obtain rfl:adx1=adx2:=(by injection ex2)
    have HRx2:=aM hix2
    have HCx2:=aM hlx2
    clear hix2 hlx2
    replace px2:=eq_true px2
    replace qx2:=eq_true qx2
    have ea_:=Option.some.inj (hxx9.symm.trans hxx18)
    injection ea_ with ea_ en_ ec_
    subst ea_
    subst ec_
    clear en_
    have px3:0≤(x5_1:Int):=odA
    have qx3:x5_1<(l0.length:Int):=odA
    obtain⟨adx3,Ax3,cx3,ex3,hxx19,hxx20,hxx21,hxx22,hxx23,hxx24,hxx25,hxx26,hxx27,hlx3,hix3⟩:=at_T73 HR0.out x5_1 px3 qx3
    obtain rfl:adx1=adx3:=(by injection ex3)
    have HRx3:=aM hix3
    have HCx3:=aM hlx3
    clear hix3 hlx3
    replace px3:=eq_true px3
    replace qx3:=eq_true qx3
    have ea_:=Option.some.inj (hxx9.symm.trans hxx27)
    injection ea_ with ea_ en_ ec_
    subst ea_
    subst ec_
    clear en_
    have px4:0≤(x5_1:Int):=odA
    have qx4:x5_1<(l0.length:Int):=odA
    obtain⟨adx4,Ax4,cx4,ex4,hxx28,hxx29,hxx30,hxx31,hxx32,hxx33,hxx34,hxx35,hxx36,hlx4,hix4⟩:=at_T73 HR0.out x5_1 px4 qx4
    obtain rfl:adx1=adx4:=(by injection ex4)
    have HRx4:=aM hix4
    have HCx4:=aM hlx4
    clear hix4 hlx4
    replace px4:=eq_true px4
    replace qx4:=eq_true qx4
    have ea_:=Option.some.inj (hxx9.symm.trans hxx36)
    injection ea_ with ea_ en_ ec_
    subst ea_
    subst ec_
    clear en_
    have px5:0≤(x5_1:Int):=odA
    have qx5:x5_1<(l0.length:Int):=odA
    obtain⟨adx5,Ax5,cx5,ex5,hxx37,hxx38,hxx39,hxx40,hxx41,hxx42,hxx43,hxx44,hxx45,hlx5,hix5⟩:=at_T73 HR0.out x5_1 px5 qx5
    obtain rfl:adx1=adx5:=(by injection ex5)
    have HRx5:=aM hix5
    have HCx5:=aM hlx5
    clear hix5 hlx5
    replace px5:=eq_true px5
    replace qx5:=eq_true qx5
    have ea_:=Option.some.inj (hxx9.symm.trans hxx45)
    injection ea_ with ea_ en_ ec_
    subst ea_
    subst ec_
    clear en_
    have px6:0≤(x5_1:Int):=odA
    have qx6:x5_1<(l0.length:Int):=odA
    obtain⟨adx6,Ax6,cx6,ex6,hxx46,hxx47,hxx48,hxx49,hxx50,hxx51,hxx52,hxx53,hxx54,hlx6,hix6⟩:=at_T73 HR0.out x5_1 px6 qx6
    obtain rfl:adx1=adx6:=(by injection ex6)
    have HRx6:=aM hix6
    have HCx6:=aM hlx6
    clear hix6 hlx6
    replace px6:=eq_true px6
    replace qx6:=eq_true qx6
    have ea_:=Option.some.inj (hxx9.symm.trans hxx54)
    injection ea_ with ea_ en_ ec_
    subst ea_
    subst ec_
    clear en_
    have px7:0≤(x5_1:Int):=odA
    have qx7:x5_1<(l0.length:Int):=odA
    obtain⟨adx7,Ax7,cx7,ex7,hxx55,hxx56,hxx57,hxx58,hxx59,hxx60,hxx61,hxx62,hxx63,hlx7,hix7⟩:=at_T73 HR0.out x5_1 px7 qx7
    obtain rfl:adx1=adx7:=(by injection ex7)
    have HRx7:=aM hix7
    have HCx7:=aM hlx7
    clear hix7 hlx7
    replace px7:=eq_true px7
    replace qx7:=eq_true qx7
    have ea_:=Option.some.inj (hxx9.symm.trans hxx63)
    injection ea_ with ea_ en_ ec_
    subst ea_
    subst ec_
    clear en_
    have px8:0≤(x5_1:Int):=odA
    have qx8:x5_1<(l0.length:Int):=odA
    obtain⟨adx8,Ax8,cx8,ex8,hxx64,hxx65,hxx66,hxx67,hxx68,hxx69,hxx70,hxx71,hxx72,hlx8,hix8⟩:=at_T73 HR0.out x5_1 px8 qx8
    obtain rfl:adx1=adx8:=(by injection ex8)
    have HRx8:=aM hix8
    have HCx8:=aM hlx8
    clear hix8 hlx8
    replace px8:=eq_true px8
    replace qx8:=eq_true qx8
    have ea_:=Option.some.inj (hxx9.symm.trans hxx72)
    injection ea_ with ea_ en_ ec_
    subst ea_
    subst ec_
    clear en_
    go_wp2
    go_ret
    exact⟨by first | rfl | (simp;done) | (simp[*];done),dX⟩
   replace H:=bE H;obtain⟨t110,A13,H⟩:=H
   have px1:0≤(x5_1:Int):=odA
   have qx1:x5_1<(l0.length:Int):=odA
   obtain⟨adx1,Ax1,cx1,ex1,hxx1,hxx2,hxx3,hxx4,hxx5,hxx6,hxx7,hxx8,hxx9,hlx1,hix1⟩:=at_T73 HR0.out x5_1 px1 qx1
   cases ex1
   have HRx1:=aM hix1
   have HCx1:=aM hlx1
   clear hix1 hlx1
   replace px1:=eq_true px1
   replace qx1:=eq_true qx1
   have px2:0≤(x5_1:Int):=odA
   have qx2:x5_1<(l0.length:Int):=odA
   obtain⟨adx2,Ax2,cx2,ex2,hxx10,hxx11,hxx12,hxx13,hxx14,hxx15,hxx16,hxx17,hxx18,hlx2,hix2⟩:=at_T73 HR0.out x5_1 px2 qx2
   obtain rfl:adx1=adx2:=(by injection ex2)
   have HRx2:=aM hix2
   have HCx2:=aM hlx2
   clear hix2 hlx2
   replace px2:=eq_true px2
   replace qx2:=eq_true qx2
   have ea_:=Option.some.inj (hxx9.symm.trans hxx18)
   injection ea_ with ea_ en_ ec_
   subst ea_
   subst ec_
   clear en_
   have px3:0≤(x5_1:Int):=odA
   have qx3:x5_1<(l0.length:Int):=odA
   obtain⟨adx3,Ax3,cx3,ex3,hxx19,hxx20,hxx21,hxx22,hxx23,hxx24,hxx25,hxx26,hxx27,hlx3,hix3⟩:=at_T73 HR0.out x5_1 px3 qx3
   obtain rfl:adx1=adx3:=(by injection ex3)
   have HRx3:=aM hix3
   have HCx3:=aM hlx3
   clear hix3 hlx3
   replace px3:=eq_true px3
   replace qx3:=eq_true qx3
   have ea_:=Option.some.inj (hxx9.symm.trans hxx27)
   injection ea_ with ea_ en_ ec_
   subst ea_
   subst ec_
   clear en_
   have px4:0≤(x5_1:Int):=odA
   have qx4:x5_1<(l0.length:Int):=odA
   obtain⟨adx4,Ax4,cx4,ex4,hxx28,hxx29,hxx30,hxx31,hxx32,hxx33,hxx34,hxx35,hxx36,hlx4,hix4⟩:=at_T73 HR0.out x5_1 px4 qx4
   obtain rfl:adx1=adx4:=(by injection ex4)
   have HRx4:=aM hix4
   have HCx4:=aM hlx4
   clear hix4 hlx4
   replace px4:=eq_true px4
   replace qx4:=eq_true qx4
   have ea_:=Option.some.inj (hxx9.symm.trans hxx36)
   injection ea_ with ea_ en_ ec_
   subst ea_
   subst ec_
   clear en_
   have px5:0≤(x5_1:Int):=odA
   have qx5:x5_1<(l0.length:Int):=odA
   obtain⟨adx5,Ax5,cx5,ex5,hxx37,hxx38,hxx39,hxx40,hxx41,hxx42,hxx43,hxx44,hxx45,hlx5,hix5⟩:=at_T73 HR0.out x5_1 px5 qx5
   obtain rfl:adx1=adx5:=(by injection ex5)
   have HRx5:=aM hix5
   have HCx5:=aM hlx5
   clear hix5 hlx5
   replace px5:=eq_true px5
   replace qx5:=eq_true qx5
   have ea_:=Option.some.inj (hxx9.symm.trans hxx45)
   injection ea_ with ea_ en_ ec_
   subst ea_
   subst ec_
   clear en_
   have px6:0≤(x5_1:Int):=odA
   have qx6:x5_1<(l0.length:Int):=odA
   obtain⟨adx6,Ax6,cx6,ex6,hxx46,hxx47,hxx48,hxx49,hxx50,hxx51,hxx52,hxx53,hxx54,hlx6,hix6⟩:=at_T73 HR0.out x5_1 px6 qx6
   obtain rfl:adx1=adx6:=(by injection ex6)
   have HRx6:=aM hix6
   have HCx6:=aM hlx6
   clear hix6 hlx6
   replace px6:=eq_true px6
   replace qx6:=eq_true qx6
   have ea_:=Option.some.inj (hxx9.symm.trans hxx54)
   injection ea_ with ea_ en_ ec_
   subst ea_
   subst ec_
   clear en_
   have px7:0≤(x5_1:Int):=odA
   have qx7:x5_1<(l0.length:Int):=odA
   obtain⟨adx7,Ax7,cx7,ex7,hxx55,hxx56,hxx57,hxx58,hxx59,hxx60,hxx61,hxx62,hxx63,hlx7,hix7⟩:=at_T73 HR0.out x5_1 px7 qx7
   obtain rfl:adx1=adx7:=(by injection ex7)
   have HRx7:=aM hix7
   have HCx7:=aM hlx7
   clear hix7 hlx7
   replace px7:=eq_true px7
   replace qx7:=eq_true qx7
   have ea_:=Option.some.inj (hxx9.symm.trans hxx63)
   injection ea_ with ea_ en_ ec_
   subst ea_
   subst ec_
   clear en_
   have px8:0≤(x5_1:Int):=odA
   have qx8:x5_1<(l0.length:Int):=odA
   obtain⟨adx8,Ax8,cx8,ex8,hxx64,hxx65,hxx66,hxx67,hxx68,hxx69,hxx70,hxx71,hxx72,hlx8,hix8⟩:=at_T73 HR0.out x5_1 px8 qx8
   obtain rfl:adx1=adx8:=(by injection ex8)
   have HRx8:=aM hix8
   have HCx8:=aM hlx8
   clear hix8 hlx8
   replace px8:=eq_true px8
   replace qx8:=eq_true qx8
   have ea_:=Option.some.inj (hxx9.symm.trans hxx72)
   injection ea_ with ea_ en_ ec_
   subst ea_
   subst ec_
   clear en_
   have px9:0≤(x5_1:Int):=odA
   have qx9:x5_1<(l0.length:Int):=odA
   obtain⟨adx9,Ax9,cx9,ex9,hxx73,hxx74,hxx75,hxx76,hxx77,hxx78,hxx79,hxx80,hxx81,hlx9,hix9⟩:=at_T73 HR0.out x5_1 px9 qx9
   obtain rfl:adx1=adx9:=(by injection ex9)
   have HRx9:=aM hix9
   have HCx9:=aM hlx9
   clear hix9 hlx9
   replace px9:=eq_true px9
   replace qx9:=eq_true qx9
   have ea_:=Option.some.inj (hxx9.symm.trans hxx81)
   injection ea_ with ea_ en_ ec_
   subst ea_
   subst ec_
   clear en_
   go_wp2_with (refine gD 79 95 Tryz.func79 (XC.calls _ _ _ _ _ _ _ (rw2 (cX HRx9.out) HCx9.out) A13.out) ?_;intro nd;refine Stop.out ?_)
   refine⟨?_⟩
   revert H;refine iP ?_ ?_<;>intro c14b0 H
   ·obtain rfl:=sI H
    go_wp2
    go_ret
    exact⟨by first | rfl | (simp;done) | (simp[*];done),dX⟩
   have H':=aM H
   clear H
   go_wp2
   go_roundg k1
   case measure=>have:=HKy1.out;omega
   case rel=>exact⟨(t110),(wrap64 (x5_1+1)),rS,rS,H',⟨by have:=HKy1.out;omega⟩,dX⟩
def X3.l0:Nat→List (S162)→Int→Int→Option (Int × (List (S162)))
 | 0,_,_,_=>none
 | k+1,x0,x1,x5=>if x5<(x0.length:Int) then (if 0≤x5 then ((XQ.f k (rd_T162 x0 x5).f2 (wrap64 ((wrap64 (x1+1))+1))).bind fun t1=>((Xy.f k (rd_T162 x0 x5).f3.f1 (wrap64 (t1.1+1))).bind fun t2=>(X3.l0 k (x0.set (x5:Int).toNat (⟨x1,wrap64 (x1+1),t1.2,⟨t1.1,t2.2⟩⟩:S162)) t2.1 (wrap64 (x5+1))))) else (none)) else (some (x1,x0))
def X3.f (k:Nat) (l0:List (S162)) (a1:Int):Option (Int × (List (S162))):=X3.l0 k l0 a1 0
theorem X3.calls (k:Nat) (P0_:Nat→Prop) (u9000_:Value) (l0:List (S162)) (a1:Int) (r1:Int) (r2:List (S162)) (w0 w:World) (hB:Below w0.heap.size w0 w) (ho0:Kd.S k162 162 w w0.heap.size P0_ u9000_ l0) (h:X3.f k l0 a1=some (r1,r2)) :
  Calls Tryz.prog 130 #[u9000_,.int .i64 a1] w fun e w'=>e = .returned (.int .i64 r1)∧Kd.S k162 162 w' w0.heap.size P0_ u9000_ r2∧Below w0.heap.size w0 w'∧Kept w w' (fun k_=>P0_ k_):=by
 have HO0:=Aside0.mk ho0
 have HK:=aM (Kept.refl w (fun k_=>P0_ k_))
 have HB:=Aside0.mk hB
 clear hB ho0
 have H':=aM (show X3.l0 k l0 a1 0=some (r1,r2) from h)
 clear h
 go_enter Tryz.func130,Tryz.ntmps130
 go_wp2
 go_loopg [1,5] k (fun kq v1 v5 w'=>∃ (x0:List (S162)) (x1:Int) (x5:Int),v1 = .int .i64 x1∧v5 = .int .i64 x5∧Aside0 (X3.l0 kq x0 x1 x5=some (r1,r2))∧Aside0 (kq≤k)∧Aside0 (Kd.S k162 162 w' w0.heap.size P0_ u9000_ x0)∧Aside0 (Kept w w' (fun k_=>P0_ k_))∧Aside0 (Below w0.heap.size w0 w'))
 case atStart=>exact⟨l0,a1,0,(by first | rfl | (simp;done) | (simp[*];done)),(by first | rfl | (simp;done) | (simp[*];done)),H',⟨Nat.le_refl _⟩,HO0,HK,HB⟩
 case round =>
  clear H'
  try clear p2
  obtain⟨x0,x1,x5,rfl,rfl,HA,HK1,HO,HK,HB⟩:=hrel
  cases gk with
  | zero=>exact absurd HA.out (by simp[X3.l0])
  | succ k1 =>
   have H:=HA.out
   clear HA
   simp only[X3.l0] at H
   by_cases c3:x5<(x0.length:Int)
   ·rw[if_pos c3] at H
    have hq0:=Aside0.mk c3
    have c3b0:decide (x5<(x0.length:Int))=true:=decide_eq_true c3
    by_cases c4:0≤x5
    ·rw[if_pos c4] at H
     have hp0:=Aside0.mk c4
     have c4b0:decide (0≤x5)=true:=decide_eq_true c4
     obtain⟨t1,At1,H⟩:=Option.bind_eq_some_iff.mp H
     replace At1:=Aside0.mk At1
     obtain⟨t2,At2,H⟩:=Option.bind_eq_some_iff.mp H
     replace At2:=Aside0.mk At2
     have H':=Aside0.mk H
     clear H
     obtain⟨go,co,eo,gb,gl,cl,HG⟩:=Kd.S_form HO.out (by omega)
     subst eo
     have GB:=Aside0.mk gb
     clear gb gl HG
     have HM:=aM (show P0_ go from ((Kd.S_R HO.out).1 _ rfl))
     obtain⟨oki,ce,hcl,hM,hcc,hfr,hoki,hH⟩:=Kd.S_elem HO.out z162 x5 c4 c3
     obtain⟨vr2,vr4,rfl,hL2,hL4⟩:=k162_openM hM
     have hok:=Aside0.mk hoki
     have HH:=Aside0.mk hH
     have HL2:=aM (show Kd.R k165 165 wr w0.heap.size oki vr2 (rd_T162 x0 x5).f2 from hL2)
     have HL4:=aM (show Kd.R (Kd.int .i64) 3 wr w0.heap.size oki vr4 (rd_T162 x0 x5).f3.f1 from hL4)
     have hx0:wr.cell? ⟨go,x5.toNat * 5,none⟩=some (.int .i64 (rd_T162 x0 x5).f0):=(Deep.H_facts HH.out hp0.out hq0.out).1 0 _ rfl
     have hz0:wr.frozen? ⟨go,x5.toNat * 5,none⟩=false:=(Deep.H_facts HH.out hp0.out hq0.out).2 0
     clear hcl hM hcc hfr hoki hH hL2 hL4
     clear HO
     replace c3:=eq_true c3
     replace c4:=eq_true c4
     go_wp2_with (first | ((with_reducible refine gate_store (t:=3) (p:=16) rfl ?_);refine store_event (t:=3) (p:=16) (v:=?vo_wz1) (w1:=(wr.setCell ⟨go,x5.toNat * 5,none⟩ (.int .i64 x1))) ?hg ?ho ?hn ?hr ?_;(case ho=>rfl);(case hg=>rfl);(case hn=>rfl);(case hr=>first | (go_simp;done) | (go_simp;rfl));intro wz1 hw;have hp_:=Deep.H_put HH.out hp0.out hq0.out 0 (.int .i64 x1) (by decide) rfl;have hg:wr.grownBy wz1 (some go):=(by rw[hw];exact hp_.2);have n0_:=aM (show Kd.H k162 162 wz1 w0.heap.size P0_ (.slice (some ⟨go,0,none⟩) x0.length co) x0 x5 oki [.int .i64 x1,.int .i64 (rd_T162 x0 x5).f1,vr2,.int .i64 (rd_T162 x0 x5).f3.f0,vr4] from by rw[hw];exact hp_.1);have n1_:=aM (show Below w0.heap.size w0 wz1 from by rw[hw];exact below_set HB.out GB.out);have n2_:=aM (Kept.of_grown (S:=(fun k_=>P0_ k_)) hg HK.out (fun k_ e_ => .inl ((Option.some.inj e_) ▸ HM.out)));replace HL2:=aM (Kd.R_grown HL2.out hg (fun k_ hk_ e_=>(hok.out k_ hk_).2 (Option.some.inj e_)));replace HL4:=aM (Kd.R_grown HL4.out hg (fun k_ hk_ e_=>(hok.out k_ hk_).2 (Option.some.inj e_)));clear HH HB HK hp_ hg hw;have HH:=n0_;have HB:=n1_;have HK:=n2_;clear n0_ n1_ n2_;have hx1:wz1.cell? ⟨go,x5.toNat * 5+1,none⟩=some (.int .i64 (rd_T162 x0 x5).f1):=(Deep.H_facts HH.out hp0.out hq0.out).1 1 _ rfl;have hz1:wz1.frozen? ⟨go,x5.toNat * 5+1,none⟩=false:=(Deep.H_facts HH.out hp0.out hq0.out).2 1) | ((with_reducible refine gate_store (t:=3) (p:=23) rfl ?_);refine store_event (t:=3) (p:=23) (v:=?vo_wz2) (w1:=(wz1.setCell ⟨go,x5.toNat * 5+1,none⟩ (.int .i64 (wrap64 (x1+1))))) ?hg ?ho ?hn ?hr ?_;(case ho=>rfl);(case hg=>rfl);(case hn=>rfl);(case hr=>first | (go_simp;done) | (go_simp;rfl));intro wz2 hw;have hp_:=Deep.H_put HH.out hp0.out hq0.out 1 (.int .i64 (wrap64 (x1+1))) (by decide) rfl;have hg:wz1.grownBy wz2 (some go):=(by rw[hw];exact hp_.2);have n0_:=aM (show Kd.H k162 162 wz2 w0.heap.size P0_ (.slice (some ⟨go,0,none⟩) x0.length co) x0 x5 oki [.int .i64 x1,.int .i64 (wrap64 (x1+1)),vr2,.int .i64 (rd_T162 x0 x5).f3.f0,vr4] from by rw[hw];exact hp_.1);have n1_:=aM (show Below w0.heap.size w0 wz2 from by rw[hw];exact below_set HB.out GB.out);have n2_:=aM (Kept.of_grown (S:=(fun k_=>P0_ k_)) hg HK.out (fun k_ e_ => .inl ((Option.some.inj e_) ▸ HM.out)));replace HL2:=aM (Kd.R_grown HL2.out hg (fun k_ hk_ e_=>(hok.out k_ hk_).2 (Option.some.inj e_)));replace HL4:=aM (Kd.R_grown HL4.out hg (fun k_ hk_ e_=>(hok.out k_ hk_).2 (Option.some.inj e_)));clear HH HB HK hp_ hg hw;have HH:=n0_;have HB:=n1_;have HK:=n2_;clear n0_ n1_ n2_;have hx2:wz2.cell? ⟨go,x5.toNat * 5+2,none⟩=some (vr2):=(Deep.H_facts HH.out hp0.out hq0.out).1 2 _ rfl) | ((with_reducible refine gate_callee (f:=196) rfl ?_);refine goesL_ (some 32) rfl rfl Tryz.func196 (by kernel_rfl) rfl #[vr2,.int .i64 (wrap64 ((wrap64 (x1+1))+1))] rfl (by (try simp only[List.map_toArray,List.map_cons,List.map_nil]);first | done | rfl | (simp only[List.length_drop,List.length_take];rfl)) ?_;(with_reducible refine(XQ.calls k1 (fun k_=>some k_=(vr2:Value).ownBlock) vr2 ((rd_T162 x0 x5).f2) (wrap64 ((wrap64 (x1+1))+1)) t1.1 t1.2 w0 _ HB.out (Kd.R_tight rfl HL2.out) At1.out).mono ?_);rintro e wz3 ⟨rfl,hy0,hb,hkp⟩;refine⟨_,rfl,?_⟩;have n0_:=aM (Kd.H_kept HH.out hkp (fun k_ _ hn_ e_=>hn_ (HL2.out.1 k_ e_.symm)));have n2_:=aM (Kept.then_ (S:=(fun k_=>P0_ k_)) HK.out hkp (fun k_ e_ => .inl (hok.out k_ (HL2.out.1 k_ e_.symm)).1));replace HL4:=aM (Deep.R_other HL4.out rfl HL2.out (by decide) hkp);replace HL2:=aM (Kd.R_reok rfl hy0 (fun k_ e_=>HL2.out.1 k_ e_));clear HH HB HK hkp hy0;have HH:=n0_;have HB:=Aside0.mk hb;have HK:=n2_;clear n0_ n2_ hb;have hx3:wz3.cell? ⟨go,x5.toNat * 5+3,none⟩=some (.int .i64 (rd_T162 x0 x5).f3.f0):=(Deep.H_facts HH.out hp0.out hq0.out).1 3 _ rfl;have hz3:wz3.frozen? ⟨go,x5.toNat * 5+3,none⟩=false:=(Deep.H_facts HH.out hp0.out hq0.out).2 3) | ((with_reducible refine gate_store (t:=3) (p:=38) rfl ?_);refine store_event (t:=3) (p:=38) (v:=?vo_wz4) (w1:=(wz3.setCell ⟨go,x5.toNat * 5+3,none⟩ (.int .i64 t1.1))) ?hg ?ho ?hn ?hr ?_;(case ho=>rfl);(case hg=>rfl);(case hn=>rfl);(case hr=>first | (go_simp;done) | (go_simp;rfl));intro wz4 hw;have hp_:=Deep.H_put HH.out hp0.out hq0.out 3 (.int .i64 t1.1) (by decide) rfl;have hg:wz3.grownBy wz4 (some go):=(by rw[hw];exact hp_.2);have n0_:=aM (show Kd.H k162 162 wz4 w0.heap.size P0_ (.slice (some ⟨go,0,none⟩) x0.length co) x0 x5 oki [.int .i64 x1,.int .i64 (wrap64 (x1+1)),vr2,.int .i64 t1.1,vr4] from by rw[hw];exact hp_.1);have n1_:=aM (show Below w0.heap.size w0 wz4 from by rw[hw];exact below_set HB.out GB.out);have n2_:=aM (Kept.of_grown (S:=(fun k_=>P0_ k_)) hg HK.out (fun k_ e_ => .inl ((Option.some.inj e_) ▸ HM.out)));replace HL2:=aM (Kd.R_grown HL2.out hg (fun k_ hk_ e_=>(hok.out k_ hk_).2 (Option.some.inj e_)));replace HL4:=aM (Kd.R_grown HL4.out hg (fun k_ hk_ e_=>(hok.out k_ hk_).2 (Option.some.inj e_)));clear HH HB HK hp_ hg hw;have HH:=n0_;have HB:=n1_;have HK:=n2_;clear n0_ n1_ n2_;have hx4:wz4.cell? ⟨go,x5.toNat * 5+4,none⟩=some (vr4):=(Deep.H_facts HH.out hp0.out hq0.out).1 4 _ rfl) | ((with_reducible refine gate_callee (f:=71) rfl ?_);refine goesL_ (some 48) rfl rfl Tryz.func71 (by kernel_rfl) rfl #[vr4,.int .i64 (wrap64 (t1.1+1))] rfl (by (try simp only[List.map_toArray,List.map_cons,List.map_nil]);first | done | rfl | (simp only[List.length_drop,List.length_take];rfl)) ?_;(with_reducible refine(Xy.calls k1 (fun k_=>some k_=(vr4:Value).ownBlock) vr4 ((rd_T162 x0 x5).f3.f1) (wrap64 (t1.1+1)) t2.1 t2.2 w0 _ HB.out (Kd.R_tight rfl HL4.out) At2.out).mono ?_);rintro e wz5 ⟨rfl,hy0,hb,hkp⟩;refine⟨_,rfl,?_⟩;have n0_:=aM (Kd.H_kept HH.out hkp (fun k_ _ hn_ e_=>hn_ (HL4.out.1 k_ e_.symm)));have n2_:=aM (Kept.then_ (S:=(fun k_=>P0_ k_)) HK.out hkp (fun k_ e_ => .inl (hok.out k_ (HL4.out.1 k_ e_.symm)).1));replace HL2:=aM (Deep.R_other HL2.out rfl HL4.out (by decide) hkp);replace HL4:=aM (Kd.R_reok rfl hy0 (fun k_ e_=>HL4.out.1 k_ e_));clear HH HB HK hkp hy0;have HH:=n0_;have HB:=Aside0.mk hb;have HK:=n2_;clear n0_ n2_ hb))
     go_roundg k1
     case measure=>have:=HK1.out;omega
     case rel=>exact⟨(x0.set (x5:Int).toNat (⟨x1,wrap64 (x1+1),t1.2,⟨t1.1,t2.2⟩⟩:S162)),t2.1,(wrap64 (x5+1)),(by first | rfl | (simp;done) | (simp[*];done)),(by first | rfl | (simp;done) | (simp[*];done)),H',⟨by have:=HK1.out;omega⟩,⟨Kd.H_back HH.out (k162_mkM _ _ _ (⟨x1,wrap64 (x1+1),t1.2,⟨t1.1,t2.2⟩⟩:S162) HL2.out HL4.out) (fun _ hk_=>hk_)⟩,HK,HB⟩
    ·rw[if_neg c4] at H
     exact absurd H (by simp)
   ·rw[if_neg c3] at H
    have c3b0:decide (x5<(x0.length:Int))=false:=decide_eq_false c3
    clear c3
    simp only[Option.some.injEq,Prod.mk.injEq] at H
    obtain⟨rfl,rfl⟩:=H
    obtain⟨Ao,co,eo⟩:=Kd.S_slice HO.out
    subst eo
    go_wp2
    go_ret
    exact⟨by first | rfl | (simp[errW_none,errW_some]<;>rfl),HO.out,HB.out,HK.out⟩
end Go.Proofs.YtmljebgideecjaaGreat.P2
