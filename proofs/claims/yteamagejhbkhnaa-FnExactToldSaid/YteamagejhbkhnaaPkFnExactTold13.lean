/- A part of the proof of the law FnExactTold: texts of this seat, merged (words, printed functions of the program, plain lemmas). Conditions: none of its own. -/
import Derived.Test.YteamagejhbkhnaaPkFnExactTold8
set_option linter.unusedSimpArgs false
set_option linter.unusedVariables false
set_option maxHeartbeats 8000000
set_option maxRecDepth 100000
namespace Go.Proofs.Yteamagejhbkhnaa.P
open Go.Proofs.YteamagejhbkhnaaZ Go.RowKit Go.Proofs.YteamagejhbkhnaaW.PrintWords Go.Proofs.YteamagejhbkhnaaW.PrintLast Go.Proofs.YteamagejhbkhnaaW.PrintMore
attribute [local go_sem] max2_int min2_int max_two min_two max_three min_three max_four min_four   -- for this text's walks alone
def Xn.l0:Nat→List (S59)→Int→Int→Option (Int)
 | 0,_,_,_=>none
 | k+1,x0,x1,x5=>if x5<(x0.length:Int) then (if 0≤x5 then (if ((rd_T59 x0 x5).f0)=x1 then (if ((rd_T59 x0 x5).f1.f0)=(wrap64 (x1+1)) then (if ((rd_T59 x0 x5).f1.f1)=(wrap64 ((wrap64 (x1+1))+1)) then (if ((rd_T59 x0 x5).f1.f2)=(wrap64 ((wrap64 ((wrap64 (x1+1))+1))+1)) then (if ((rd_T59 x0 x5).f2)=(wrap64 ((wrap64 ((wrap64 ((wrap64 (x1+1))+1))+1))+1)) then (if ((rd_T59 x0 x5).f3)=(wrap64 ((wrap64 ((wrap64 ((wrap64 ((wrap64 (x1+1))+1))+1))+1))+1)) then (if ((rd_T59 x0 x5).f4)=(wrap64 ((wrap64 ((wrap64 ((wrap64 ((wrap64 ((wrap64 (x1+1))+1))+1))+1))+1))+1)) then (if ((rd_T59 x0 x5).f5.f0)=(wrap64 ((wrap64 ((wrap64 ((wrap64 ((wrap64 ((wrap64 ((wrap64 (x1+1))+1))+1))+1))+1))+1))+1)) then ((XF.f k ((rd_T59 x0 x5).f5.f1) (wrap64 ((wrap64 ((wrap64 ((wrap64 ((wrap64 ((wrap64 ((wrap64 ((wrap64 (x1+1))+1))+1))+1))+1))+1))+1))+1))).bind fun t110=>(if t110<0 then (some (-1)) else (Xn.l0 k x0 t110 (wrap64 (x5+1))))) else (some (-1))) else (some (-1))) else (some (-1))) else (some (-1))) else (some (-1))) else (some (-1))) else (some (-1))) else (some (-1))) else (none)) else (some x1)
def Xn.f (k:Nat) (l0:List (S59)) (a1:Int):Option (Int):=Xn.l0 k l0 a1 0
theorem Xn.calls (k:Nat) (A0:Option Addr) (c0:Nat) (l0:List (S59)) (a1:Int) (r:Int) (w:World) (hr0:Kd.C k59 w A0 l0.length l0) (hc0:l0.length≤c0) (h:Xn.f k l0 a1=some r) :
  Calls Try.prog 73 #[.slice A0 l0.length c0,.int .i64 a1] w fun e w'=>e = .returned (.int .i64 r)∧Drawn0 w w':=by
 have HR0:=Aside0.mk hr0
 have HC0:=Aside0.mk hc0
 clear hr0 hc0
 have H:=h
 unfold Xn.f at H
 clear h
 have H':=Aside0.mk H
 clear H
 go_enter Try.func73,Try.ntmps73
 go_wp2
 go_loopg [1,5] k (fun kq v1 v5 w'=>∃ (x1_1:Int) (x5_1:Int),v1 = .int .i64 x1_1∧v5 = .int .i64 x5_1∧Aside0 (Xn.l0 kq l0 x1_1 x5_1=some r)∧Aside0 (kq≤k)∧Drawn0 w w')
 case atStart=>exact⟨(a1),(0),rS,rS,H',⟨Nat.le_refl _⟩,dX⟩
 case round =>
  clear H'
  try clear p2
  obtain⟨x1_1,x5_1,rfl,rfl,HA,HKy1,⟨my1,rfl⟩⟩:=hrel
  cases gk with
  | zero=>exact absurd HA.out (by simp[Xn.l0])
  | succ k1 =>
   have H:=HA.out
   clear HA
   simp only[Xn.l0] at H
   by_cases c3:x5_1<(l0.length:Int)
   ·rw[if_pos c3] at H
    have c3b0:=decide_eq_true c3
    clear c3
    replace H:=ifP H;obtain⟨c4,H⟩:=H
    have c4b0:=decide_eq_true c4
    clear c4
    by_cases c5:((rd_T59 l0 x5_1).f0)=x1_1
    ·rw[if_pos c5] at H
     obtain⟨c5b0,c5b1⟩:=eqT c5
     clear c5
     by_cases c6:((rd_T59 l0 x5_1).f1.f0)=(wrap64 (x1_1+1))
     ·rw[if_pos c6] at H
      obtain⟨c6b0,c6b1⟩:=eqT c6
      clear c6
      by_cases c7:((rd_T59 l0 x5_1).f1.f1)=(wrap64 ((wrap64 (x1_1+1))+1))
      ·rw[if_pos c7] at H
       obtain⟨c7b0,c7b1⟩:=eqT c7
       clear c7
       by_cases c8:((rd_T59 l0 x5_1).f1.f2)=(wrap64 ((wrap64 ((wrap64 (x1_1+1))+1))+1))
       ·rw[if_pos c8] at H
        obtain⟨c8b0,c8b1⟩:=eqT c8
        clear c8
        by_cases c9:((rd_T59 l0 x5_1).f2)=(wrap64 ((wrap64 ((wrap64 ((wrap64 (x1_1+1))+1))+1))+1))
        ·rw[if_pos c9] at H
         obtain⟨c9b0,c9b1⟩:=eqT c9
         clear c9
         by_cases c10:((rd_T59 l0 x5_1).f3)=(wrap64 ((wrap64 ((wrap64 ((wrap64 ((wrap64 (x1_1+1))+1))+1))+1))+1))
         ·rw[if_pos c10] at H
          obtain⟨c10b0,c10b1⟩:=eqT c10
          clear c10
          by_cases c11:((rd_T59 l0 x5_1).f4)=(wrap64 ((wrap64 ((wrap64 ((wrap64 ((wrap64 ((wrap64 (x1_1+1))+1))+1))+1))+1))+1))
          ·rw[if_pos c11] at H
           obtain⟨c11b0,c11b1⟩:=eqT c11
           clear c11
           by_cases c12:((rd_T59 l0 x5_1).f5.f0)=(wrap64 ((wrap64 ((wrap64 ((wrap64 ((wrap64 ((wrap64 ((wrap64 (x1_1+1))+1))+1))+1))+1))+1))+1))
           ·rw[if_pos c12] at H
            obtain⟨c12b0,c12b1⟩:=eqT c12
            clear c12
            replace H:=bE H;obtain⟨t110,A13,H⟩:=H
            have px1:0≤(x5_1:Int):=of_decide_eq_true (by first | (with_reducible assumption) | assumption)
            have qx1:x5_1<(l0.length:Int):=of_decide_eq_true (by first | (with_reducible assumption) | assumption)
            obtain⟨adx1,Ax1,cx1,ex1,hxx1,hxx2,hxx3,hxx4,hxx5,hxx6,hxx7,hxx8,hxx9,hlx1,hix1⟩:=at_T59 HR0.out x5_1 px1 qx1
            cases ex1
            have HRx1:=Aside0.mk hix1
            have HCx1:=Aside0.mk hlx1
            clear hix1 hlx1
            replace px1:=eq_true px1
            replace qx1:=eq_true qx1
            have px2:0≤(x5_1:Int):=of_decide_eq_true (by first | (with_reducible assumption) | assumption)
            have qx2:x5_1<(l0.length:Int):=of_decide_eq_true (by first | (with_reducible assumption) | assumption)
            obtain⟨adx2,Ax2,cx2,ex2,hxx10,hxx11,hxx12,hxx13,hxx14,hxx15,hxx16,hxx17,hxx18,hlx2,hix2⟩:=at_T59 HR0.out x5_1 px2 qx2
            obtain rfl:adx1=adx2:=(by injection ex2)
            have HRx2:=Aside0.mk hix2
            have HCx2:=Aside0.mk hlx2
            clear hix2 hlx2
            replace px2:=eq_true px2
            replace qx2:=eq_true qx2
            have ea_:=Option.some.inj (hxx9.symm.trans hxx18)
            injection ea_ with ea_ en_ ec_
            subst ea_
            subst ec_
            clear en_
            have px3:0≤(x5_1:Int):=of_decide_eq_true (by first | (with_reducible assumption) | assumption)
            have qx3:x5_1<(l0.length:Int):=of_decide_eq_true (by first | (with_reducible assumption) | assumption)
            obtain⟨adx3,Ax3,cx3,ex3,hxx19,hxx20,hxx21,hxx22,hxx23,hxx24,hxx25,hxx26,hxx27,hlx3,hix3⟩:=at_T59 HR0.out x5_1 px3 qx3
            obtain rfl:adx1=adx3:=(by injection ex3)
            have HRx3:=Aside0.mk hix3
            have HCx3:=Aside0.mk hlx3
            clear hix3 hlx3
            replace px3:=eq_true px3
            replace qx3:=eq_true qx3
            have ea_:=Option.some.inj (hxx9.symm.trans hxx27)
            injection ea_ with ea_ en_ ec_
            subst ea_
            subst ec_
            clear en_
            have px4:0≤(x5_1:Int):=of_decide_eq_true (by first | (with_reducible assumption) | assumption)
            have qx4:x5_1<(l0.length:Int):=of_decide_eq_true (by first | (with_reducible assumption) | assumption)
            obtain⟨adx4,Ax4,cx4,ex4,hxx28,hxx29,hxx30,hxx31,hxx32,hxx33,hxx34,hxx35,hxx36,hlx4,hix4⟩:=at_T59 HR0.out x5_1 px4 qx4
            obtain rfl:adx1=adx4:=(by injection ex4)
            have HRx4:=Aside0.mk hix4
            have HCx4:=Aside0.mk hlx4
            clear hix4 hlx4
            replace px4:=eq_true px4
            replace qx4:=eq_true qx4
            have ea_:=Option.some.inj (hxx9.symm.trans hxx36)
            injection ea_ with ea_ en_ ec_
            subst ea_
            subst ec_
            clear en_
            have px5:0≤(x5_1:Int):=of_decide_eq_true (by first | (with_reducible assumption) | assumption)
            have qx5:x5_1<(l0.length:Int):=of_decide_eq_true (by first | (with_reducible assumption) | assumption)
            obtain⟨adx5,Ax5,cx5,ex5,hxx37,hxx38,hxx39,hxx40,hxx41,hxx42,hxx43,hxx44,hxx45,hlx5,hix5⟩:=at_T59 HR0.out x5_1 px5 qx5
            obtain rfl:adx1=adx5:=(by injection ex5)
            have HRx5:=Aside0.mk hix5
            have HCx5:=Aside0.mk hlx5
            clear hix5 hlx5
            replace px5:=eq_true px5
            replace qx5:=eq_true qx5
            have ea_:=Option.some.inj (hxx9.symm.trans hxx45)
            injection ea_ with ea_ en_ ec_
            subst ea_
            subst ec_
            clear en_
            have px6:0≤(x5_1:Int):=of_decide_eq_true (by first | (with_reducible assumption) | assumption)
            have qx6:x5_1<(l0.length:Int):=of_decide_eq_true (by first | (with_reducible assumption) | assumption)
            obtain⟨adx6,Ax6,cx6,ex6,hxx46,hxx47,hxx48,hxx49,hxx50,hxx51,hxx52,hxx53,hxx54,hlx6,hix6⟩:=at_T59 HR0.out x5_1 px6 qx6
            obtain rfl:adx1=adx6:=(by injection ex6)
            have HRx6:=Aside0.mk hix6
            have HCx6:=Aside0.mk hlx6
            clear hix6 hlx6
            replace px6:=eq_true px6
            replace qx6:=eq_true qx6
            have ea_:=Option.some.inj (hxx9.symm.trans hxx54)
            injection ea_ with ea_ en_ ec_
            subst ea_
            subst ec_
            clear en_
            have px7:0≤(x5_1:Int):=of_decide_eq_true (by first | (with_reducible assumption) | assumption)
            have qx7:x5_1<(l0.length:Int):=of_decide_eq_true (by first | (with_reducible assumption) | assumption)
            obtain⟨adx7,Ax7,cx7,ex7,hxx55,hxx56,hxx57,hxx58,hxx59,hxx60,hxx61,hxx62,hxx63,hlx7,hix7⟩:=at_T59 HR0.out x5_1 px7 qx7
            obtain rfl:adx1=adx7:=(by injection ex7)
            have HRx7:=Aside0.mk hix7
            have HCx7:=Aside0.mk hlx7
            clear hix7 hlx7
            replace px7:=eq_true px7
            replace qx7:=eq_true qx7
            have ea_:=Option.some.inj (hxx9.symm.trans hxx63)
            injection ea_ with ea_ en_ ec_
            subst ea_
            subst ec_
            clear en_
            have px8:0≤(x5_1:Int):=of_decide_eq_true (by first | (with_reducible assumption) | assumption)
            have qx8:x5_1<(l0.length:Int):=of_decide_eq_true (by first | (with_reducible assumption) | assumption)
            obtain⟨adx8,Ax8,cx8,ex8,hxx64,hxx65,hxx66,hxx67,hxx68,hxx69,hxx70,hxx71,hxx72,hlx8,hix8⟩:=at_T59 HR0.out x5_1 px8 qx8
            obtain rfl:adx1=adx8:=(by injection ex8)
            have HRx8:=Aside0.mk hix8
            have HCx8:=Aside0.mk hlx8
            clear hix8 hlx8
            replace px8:=eq_true px8
            replace qx8:=eq_true qx8
            have ea_:=Option.some.inj (hxx9.symm.trans hxx72)
            injection ea_ with ea_ en_ ec_
            subst ea_
            subst ec_
            clear en_
            have px9:0≤(x5_1:Int):=of_decide_eq_true (by first | (with_reducible assumption) | assumption)
            have qx9:x5_1<(l0.length:Int):=of_decide_eq_true (by first | (with_reducible assumption) | assumption)
            obtain⟨adx9,Ax9,cx9,ex9,hxx73,hxx74,hxx75,hxx76,hxx77,hxx78,hxx79,hxx80,hxx81,hlx9,hix9⟩:=at_T59 HR0.out x5_1 px9 qx9
            obtain rfl:adx1=adx9:=(by injection ex9)
            have HRx9:=Aside0.mk hix9
            have HCx9:=Aside0.mk hlx9
            clear hix9 hlx9
            replace px9:=eq_true px9
            replace qx9:=eq_true qx9
            have ea_:=Option.some.inj (hxx9.symm.trans hxx81)
            injection ea_ with ea_ en_ ec_
            subst ea_
            subst ec_
            clear en_
            go_wp2_with (first | (refine goesM 25 95 Try.func25 #[.slice Ax1 ((rd_T59 l0 x5_1).f5.f1).length cx1,.int .i64 (wrap64 ((wrap64 ((wrap64 ((wrap64 ((wrap64 ((wrap64 ((wrap64 ((wrap64 (x1_1+1))+1))+1))+1))+1))+1))+1))+1))] ?_;refine(XF.calls k1 _ _ ((rd_T59 l0 x5_1).f5.f1) (wrap64 ((wrap64 ((wrap64 ((wrap64 ((wrap64 ((wrap64 ((wrap64 ((wrap64 (x1_1+1))+1))+1))+1))+1))+1))+1))+1)) t110 _ (cX HRx9.out) HCx9.out A13.out).mono ?_;rintro e w' ⟨rfl,⟨nd,rfl⟩⟩;refine⟨_,rfl,?_⟩;refine Stop.out ?_))
            refine⟨?_⟩
            by_cases c14:t110<0
            ·rw[if_pos c14] at H
             have c14b0:=decide_eq_true c14
             clear c14
             obtain rfl:=Option.some.inj H
             go_wp2
             go_ret
             exact⟨by first | rfl | (simp;done) | (simp[*];done),dX⟩
            ·rw[if_neg c14] at H
             have c14b0:=decide_eq_false c14
             clear c14
             have H':=Aside0.mk H
             clear H
             go_wp2
             go_roundg k1
             case measure=>have:=HKy1.out;omega
             case rel=>exact⟨(t110),(wrap64 (x5_1+1)),rS,rS,H',⟨by have:=HKy1.out;omega⟩,dX⟩
           ·rw[if_neg c12] at H
            obtain⟨c12b0,c12b1⟩:=eqF c12
            obtain rfl:=Option.some.inj H
            have px1:0≤(x5_1:Int):=of_decide_eq_true (by first | (with_reducible assumption) | assumption)
            have qx1:x5_1<(l0.length:Int):=of_decide_eq_true (by first | (with_reducible assumption) | assumption)
            obtain⟨adx1,Ax1,cx1,ex1,hxx1,hxx2,hxx3,hxx4,hxx5,hxx6,hxx7,hxx8,hxx9,hlx1,hix1⟩:=at_T59 HR0.out x5_1 px1 qx1
            cases ex1
            have HRx1:=Aside0.mk hix1
            have HCx1:=Aside0.mk hlx1
            clear hix1 hlx1
            replace px1:=eq_true px1
            replace qx1:=eq_true qx1
            have px2:0≤(x5_1:Int):=of_decide_eq_true (by first | (with_reducible assumption) | assumption)
            have qx2:x5_1<(l0.length:Int):=of_decide_eq_true (by first | (with_reducible assumption) | assumption)
            obtain⟨adx2,Ax2,cx2,ex2,hxx10,hxx11,hxx12,hxx13,hxx14,hxx15,hxx16,hxx17,hxx18,hlx2,hix2⟩:=at_T59 HR0.out x5_1 px2 qx2
            obtain rfl:adx1=adx2:=(by injection ex2)
            have HRx2:=Aside0.mk hix2
            have HCx2:=Aside0.mk hlx2
            clear hix2 hlx2
            replace px2:=eq_true px2
            replace qx2:=eq_true qx2
            have ea_:=Option.some.inj (hxx9.symm.trans hxx18)
            injection ea_ with ea_ en_ ec_
            subst ea_
            subst ec_
            clear en_
            have px3:0≤(x5_1:Int):=of_decide_eq_true (by first | (with_reducible assumption) | assumption)
            have qx3:x5_1<(l0.length:Int):=of_decide_eq_true (by first | (with_reducible assumption) | assumption)
            obtain⟨adx3,Ax3,cx3,ex3,hxx19,hxx20,hxx21,hxx22,hxx23,hxx24,hxx25,hxx26,hxx27,hlx3,hix3⟩:=at_T59 HR0.out x5_1 px3 qx3
            obtain rfl:adx1=adx3:=(by injection ex3)
            have HRx3:=Aside0.mk hix3
            have HCx3:=Aside0.mk hlx3
            clear hix3 hlx3
            replace px3:=eq_true px3
            replace qx3:=eq_true qx3
            have ea_:=Option.some.inj (hxx9.symm.trans hxx27)
            injection ea_ with ea_ en_ ec_
            subst ea_
            subst ec_
            clear en_
            have px4:0≤(x5_1:Int):=of_decide_eq_true (by first | (with_reducible assumption) | assumption)
            have qx4:x5_1<(l0.length:Int):=of_decide_eq_true (by first | (with_reducible assumption) | assumption)
            obtain⟨adx4,Ax4,cx4,ex4,hxx28,hxx29,hxx30,hxx31,hxx32,hxx33,hxx34,hxx35,hxx36,hlx4,hix4⟩:=at_T59 HR0.out x5_1 px4 qx4
            obtain rfl:adx1=adx4:=(by injection ex4)
            have HRx4:=Aside0.mk hix4
            have HCx4:=Aside0.mk hlx4
            clear hix4 hlx4
            replace px4:=eq_true px4
            replace qx4:=eq_true qx4
            have ea_:=Option.some.inj (hxx9.symm.trans hxx36)
            injection ea_ with ea_ en_ ec_
            subst ea_
            subst ec_
            clear en_
            have px5:0≤(x5_1:Int):=of_decide_eq_true (by first | (with_reducible assumption) | assumption)
            have qx5:x5_1<(l0.length:Int):=of_decide_eq_true (by first | (with_reducible assumption) | assumption)
            obtain⟨adx5,Ax5,cx5,ex5,hxx37,hxx38,hxx39,hxx40,hxx41,hxx42,hxx43,hxx44,hxx45,hlx5,hix5⟩:=at_T59 HR0.out x5_1 px5 qx5
            obtain rfl:adx1=adx5:=(by injection ex5)
            have HRx5:=Aside0.mk hix5
            have HCx5:=Aside0.mk hlx5
            clear hix5 hlx5
            replace px5:=eq_true px5
            replace qx5:=eq_true qx5
            have ea_:=Option.some.inj (hxx9.symm.trans hxx45)
            injection ea_ with ea_ en_ ec_
            subst ea_
            subst ec_
            clear en_
            have px6:0≤(x5_1:Int):=of_decide_eq_true (by first | (with_reducible assumption) | assumption)
            have qx6:x5_1<(l0.length:Int):=of_decide_eq_true (by first | (with_reducible assumption) | assumption)
            obtain⟨adx6,Ax6,cx6,ex6,hxx46,hxx47,hxx48,hxx49,hxx50,hxx51,hxx52,hxx53,hxx54,hlx6,hix6⟩:=at_T59 HR0.out x5_1 px6 qx6
            obtain rfl:adx1=adx6:=(by injection ex6)
            have HRx6:=Aside0.mk hix6
            have HCx6:=Aside0.mk hlx6
            clear hix6 hlx6
            replace px6:=eq_true px6
            replace qx6:=eq_true qx6
            have ea_:=Option.some.inj (hxx9.symm.trans hxx54)
            injection ea_ with ea_ en_ ec_
            subst ea_
            subst ec_
            clear en_
            have px7:0≤(x5_1:Int):=of_decide_eq_true (by first | (with_reducible assumption) | assumption)
            have qx7:x5_1<(l0.length:Int):=of_decide_eq_true (by first | (with_reducible assumption) | assumption)
            obtain⟨adx7,Ax7,cx7,ex7,hxx55,hxx56,hxx57,hxx58,hxx59,hxx60,hxx61,hxx62,hxx63,hlx7,hix7⟩:=at_T59 HR0.out x5_1 px7 qx7
            obtain rfl:adx1=adx7:=(by injection ex7)
            have HRx7:=Aside0.mk hix7
            have HCx7:=Aside0.mk hlx7
            clear hix7 hlx7
            replace px7:=eq_true px7
            replace qx7:=eq_true qx7
            have ea_:=Option.some.inj (hxx9.symm.trans hxx63)
            injection ea_ with ea_ en_ ec_
            subst ea_
            subst ec_
            clear en_
            have px8:0≤(x5_1:Int):=of_decide_eq_true (by first | (with_reducible assumption) | assumption)
            have qx8:x5_1<(l0.length:Int):=of_decide_eq_true (by first | (with_reducible assumption) | assumption)
            obtain⟨adx8,Ax8,cx8,ex8,hxx64,hxx65,hxx66,hxx67,hxx68,hxx69,hxx70,hxx71,hxx72,hlx8,hix8⟩:=at_T59 HR0.out x5_1 px8 qx8
            obtain rfl:adx1=adx8:=(by injection ex8)
            have HRx8:=Aside0.mk hix8
            have HCx8:=Aside0.mk hlx8
            clear hix8 hlx8
            replace px8:=eq_true px8
            replace qx8:=eq_true qx8
            have ea_:=Option.some.inj (hxx9.symm.trans hxx72)
            injection ea_ with ea_ en_ ec_
            subst ea_
            subst ec_
            clear en_
            go_wp2
            go_ret
            exact⟨by first | rfl | (simp;done) | (simp[*];done),dX⟩
          ·rw[if_neg c11] at H
           obtain⟨c11b0,c11b1⟩:=eqF c11
           obtain rfl:=Option.some.inj H
           have px1:0≤(x5_1:Int):=of_decide_eq_true (by first | (with_reducible assumption) | assumption)
           have qx1:x5_1<(l0.length:Int):=of_decide_eq_true (by first | (with_reducible assumption) | assumption)
           obtain⟨adx1,Ax1,cx1,ex1,hxx1,hxx2,hxx3,hxx4,hxx5,hxx6,hxx7,hxx8,hxx9,hlx1,hix1⟩:=at_T59 HR0.out x5_1 px1 qx1
           cases ex1
           have HRx1:=Aside0.mk hix1
           have HCx1:=Aside0.mk hlx1
           clear hix1 hlx1
           replace px1:=eq_true px1
           replace qx1:=eq_true qx1
           have px2:0≤(x5_1:Int):=of_decide_eq_true (by first | (with_reducible assumption) | assumption)
           have qx2:x5_1<(l0.length:Int):=of_decide_eq_true (by first | (with_reducible assumption) | assumption)
           obtain⟨adx2,Ax2,cx2,ex2,hxx10,hxx11,hxx12,hxx13,hxx14,hxx15,hxx16,hxx17,hxx18,hlx2,hix2⟩:=at_T59 HR0.out x5_1 px2 qx2
           obtain rfl:adx1=adx2:=(by injection ex2)
           have HRx2:=Aside0.mk hix2
           have HCx2:=Aside0.mk hlx2
           clear hix2 hlx2
           replace px2:=eq_true px2
           replace qx2:=eq_true qx2
           have ea_:=Option.some.inj (hxx9.symm.trans hxx18)
           injection ea_ with ea_ en_ ec_
           subst ea_
           subst ec_
           clear en_
           have px3:0≤(x5_1:Int):=of_decide_eq_true (by first | (with_reducible assumption) | assumption)
           have qx3:x5_1<(l0.length:Int):=of_decide_eq_true (by first | (with_reducible assumption) | assumption)
           obtain⟨adx3,Ax3,cx3,ex3,hxx19,hxx20,hxx21,hxx22,hxx23,hxx24,hxx25,hxx26,hxx27,hlx3,hix3⟩:=at_T59 HR0.out x5_1 px3 qx3
           obtain rfl:adx1=adx3:=(by injection ex3)
           have HRx3:=Aside0.mk hix3
           have HCx3:=Aside0.mk hlx3
           clear hix3 hlx3
           replace px3:=eq_true px3
           replace qx3:=eq_true qx3
           have ea_:=Option.some.inj (hxx9.symm.trans hxx27)
           injection ea_ with ea_ en_ ec_
           subst ea_
           subst ec_
           clear en_
           have px4:0≤(x5_1:Int):=of_decide_eq_true (by first | (with_reducible assumption) | assumption)
           have qx4:x5_1<(l0.length:Int):=of_decide_eq_true (by first | (with_reducible assumption) | assumption)
           obtain⟨adx4,Ax4,cx4,ex4,hxx28,hxx29,hxx30,hxx31,hxx32,hxx33,hxx34,hxx35,hxx36,hlx4,hix4⟩:=at_T59 HR0.out x5_1 px4 qx4
           obtain rfl:adx1=adx4:=(by injection ex4)
           have HRx4:=Aside0.mk hix4
           have HCx4:=Aside0.mk hlx4
           clear hix4 hlx4
           replace px4:=eq_true px4
           replace qx4:=eq_true qx4
           have ea_:=Option.some.inj (hxx9.symm.trans hxx36)
           injection ea_ with ea_ en_ ec_
           subst ea_
           subst ec_
           clear en_
           have px5:0≤(x5_1:Int):=of_decide_eq_true (by first | (with_reducible assumption) | assumption)
           have qx5:x5_1<(l0.length:Int):=of_decide_eq_true (by first | (with_reducible assumption) | assumption)
           obtain⟨adx5,Ax5,cx5,ex5,hxx37,hxx38,hxx39,hxx40,hxx41,hxx42,hxx43,hxx44,hxx45,hlx5,hix5⟩:=at_T59 HR0.out x5_1 px5 qx5
           obtain rfl:adx1=adx5:=(by injection ex5)
           have HRx5:=Aside0.mk hix5
           have HCx5:=Aside0.mk hlx5
           clear hix5 hlx5
           replace px5:=eq_true px5
           replace qx5:=eq_true qx5
           have ea_:=Option.some.inj (hxx9.symm.trans hxx45)
           injection ea_ with ea_ en_ ec_
           subst ea_
           subst ec_
           clear en_
           have px6:0≤(x5_1:Int):=of_decide_eq_true (by first | (with_reducible assumption) | assumption)
           have qx6:x5_1<(l0.length:Int):=of_decide_eq_true (by first | (with_reducible assumption) | assumption)
           obtain⟨adx6,Ax6,cx6,ex6,hxx46,hxx47,hxx48,hxx49,hxx50,hxx51,hxx52,hxx53,hxx54,hlx6,hix6⟩:=at_T59 HR0.out x5_1 px6 qx6
           obtain rfl:adx1=adx6:=(by injection ex6)
           have HRx6:=Aside0.mk hix6
           have HCx6:=Aside0.mk hlx6
           clear hix6 hlx6
           replace px6:=eq_true px6
           replace qx6:=eq_true qx6
           have ea_:=Option.some.inj (hxx9.symm.trans hxx54)
           injection ea_ with ea_ en_ ec_
           subst ea_
           subst ec_
           clear en_
           have px7:0≤(x5_1:Int):=of_decide_eq_true (by first | (with_reducible assumption) | assumption)
           have qx7:x5_1<(l0.length:Int):=of_decide_eq_true (by first | (with_reducible assumption) | assumption)
           obtain⟨adx7,Ax7,cx7,ex7,hxx55,hxx56,hxx57,hxx58,hxx59,hxx60,hxx61,hxx62,hxx63,hlx7,hix7⟩:=at_T59 HR0.out x5_1 px7 qx7
           obtain rfl:adx1=adx7:=(by injection ex7)
           have HRx7:=Aside0.mk hix7
           have HCx7:=Aside0.mk hlx7
           clear hix7 hlx7
           replace px7:=eq_true px7
           replace qx7:=eq_true qx7
           have ea_:=Option.some.inj (hxx9.symm.trans hxx63)
           injection ea_ with ea_ en_ ec_
           subst ea_
           subst ec_
           clear en_
           go_wp2
           go_ret
           exact⟨by first | rfl | (simp;done) | (simp[*];done),dX⟩
         ·rw[if_neg c10] at H
          obtain⟨c10b0,c10b1⟩:=eqF c10
          obtain rfl:=Option.some.inj H
          have px1:0≤(x5_1:Int):=of_decide_eq_true (by first | (with_reducible assumption) | assumption)
          have qx1:x5_1<(l0.length:Int):=of_decide_eq_true (by first | (with_reducible assumption) | assumption)
          obtain⟨adx1,Ax1,cx1,ex1,hxx1,hxx2,hxx3,hxx4,hxx5,hxx6,hxx7,hxx8,hxx9,hlx1,hix1⟩:=at_T59 HR0.out x5_1 px1 qx1
          cases ex1
          have HRx1:=Aside0.mk hix1
          have HCx1:=Aside0.mk hlx1
          clear hix1 hlx1
          replace px1:=eq_true px1
          replace qx1:=eq_true qx1
          have px2:0≤(x5_1:Int):=of_decide_eq_true (by first | (with_reducible assumption) | assumption)
          have qx2:x5_1<(l0.length:Int):=of_decide_eq_true (by first | (with_reducible assumption) | assumption)
          obtain⟨adx2,Ax2,cx2,ex2,hxx10,hxx11,hxx12,hxx13,hxx14,hxx15,hxx16,hxx17,hxx18,hlx2,hix2⟩:=at_T59 HR0.out x5_1 px2 qx2
          obtain rfl:adx1=adx2:=(by injection ex2)
          have HRx2:=Aside0.mk hix2
          have HCx2:=Aside0.mk hlx2
          clear hix2 hlx2
          replace px2:=eq_true px2
          replace qx2:=eq_true qx2
          have ea_:=Option.some.inj (hxx9.symm.trans hxx18)
          injection ea_ with ea_ en_ ec_
          subst ea_
          subst ec_
          clear en_
          have px3:0≤(x5_1:Int):=of_decide_eq_true (by first | (with_reducible assumption) | assumption)
          have qx3:x5_1<(l0.length:Int):=of_decide_eq_true (by first | (with_reducible assumption) | assumption)
          obtain⟨adx3,Ax3,cx3,ex3,hxx19,hxx20,hxx21,hxx22,hxx23,hxx24,hxx25,hxx26,hxx27,hlx3,hix3⟩:=at_T59 HR0.out x5_1 px3 qx3
          obtain rfl:adx1=adx3:=(by injection ex3)
          have HRx3:=Aside0.mk hix3
          have HCx3:=Aside0.mk hlx3
          clear hix3 hlx3
          replace px3:=eq_true px3
          replace qx3:=eq_true qx3
          have ea_:=Option.some.inj (hxx9.symm.trans hxx27)
          injection ea_ with ea_ en_ ec_
          subst ea_
          subst ec_
          clear en_
          have px4:0≤(x5_1:Int):=of_decide_eq_true (by first | (with_reducible assumption) | assumption)
          have qx4:x5_1<(l0.length:Int):=of_decide_eq_true (by first | (with_reducible assumption) | assumption)
          obtain⟨adx4,Ax4,cx4,ex4,hxx28,hxx29,hxx30,hxx31,hxx32,hxx33,hxx34,hxx35,hxx36,hlx4,hix4⟩:=at_T59 HR0.out x5_1 px4 qx4
          obtain rfl:adx1=adx4:=(by injection ex4)
          have HRx4:=Aside0.mk hix4
          have HCx4:=Aside0.mk hlx4
          clear hix4 hlx4
          replace px4:=eq_true px4
          replace qx4:=eq_true qx4
          have ea_:=Option.some.inj (hxx9.symm.trans hxx36)
          injection ea_ with ea_ en_ ec_
          subst ea_
          subst ec_
          clear en_
          have px5:0≤(x5_1:Int):=of_decide_eq_true (by first | (with_reducible assumption) | assumption)
          have qx5:x5_1<(l0.length:Int):=of_decide_eq_true (by first | (with_reducible assumption) | assumption)
          obtain⟨adx5,Ax5,cx5,ex5,hxx37,hxx38,hxx39,hxx40,hxx41,hxx42,hxx43,hxx44,hxx45,hlx5,hix5⟩:=at_T59 HR0.out x5_1 px5 qx5
          obtain rfl:adx1=adx5:=(by injection ex5)
          have HRx5:=Aside0.mk hix5
          have HCx5:=Aside0.mk hlx5
          clear hix5 hlx5
          replace px5:=eq_true px5
          replace qx5:=eq_true qx5
          have ea_:=Option.some.inj (hxx9.symm.trans hxx45)
          injection ea_ with ea_ en_ ec_
          subst ea_
          subst ec_
          clear en_
          have px6:0≤(x5_1:Int):=of_decide_eq_true (by first | (with_reducible assumption) | assumption)
          have qx6:x5_1<(l0.length:Int):=of_decide_eq_true (by first | (with_reducible assumption) | assumption)
          obtain⟨adx6,Ax6,cx6,ex6,hxx46,hxx47,hxx48,hxx49,hxx50,hxx51,hxx52,hxx53,hxx54,hlx6,hix6⟩:=at_T59 HR0.out x5_1 px6 qx6
          obtain rfl:adx1=adx6:=(by injection ex6)
          have HRx6:=Aside0.mk hix6
          have HCx6:=Aside0.mk hlx6
          clear hix6 hlx6
          replace px6:=eq_true px6
          replace qx6:=eq_true qx6
          have ea_:=Option.some.inj (hxx9.symm.trans hxx54)
          injection ea_ with ea_ en_ ec_
          subst ea_
          subst ec_
          clear en_
          go_wp2
          go_ret
          exact⟨by first | rfl | (simp;done) | (simp[*];done),dX⟩
        ·rw[if_neg c9] at H
         obtain⟨c9b0,c9b1⟩:=eqF c9
         obtain rfl:=Option.some.inj H
         have px1:0≤(x5_1:Int):=of_decide_eq_true (by first | (with_reducible assumption) | assumption)
         have qx1:x5_1<(l0.length:Int):=of_decide_eq_true (by first | (with_reducible assumption) | assumption)
         obtain⟨adx1,Ax1,cx1,ex1,hxx1,hxx2,hxx3,hxx4,hxx5,hxx6,hxx7,hxx8,hxx9,hlx1,hix1⟩:=at_T59 HR0.out x5_1 px1 qx1
         cases ex1
         have HRx1:=Aside0.mk hix1
         have HCx1:=Aside0.mk hlx1
         clear hix1 hlx1
         replace px1:=eq_true px1
         replace qx1:=eq_true qx1
         have px2:0≤(x5_1:Int):=of_decide_eq_true (by first | (with_reducible assumption) | assumption)
         have qx2:x5_1<(l0.length:Int):=of_decide_eq_true (by first | (with_reducible assumption) | assumption)
         obtain⟨adx2,Ax2,cx2,ex2,hxx10,hxx11,hxx12,hxx13,hxx14,hxx15,hxx16,hxx17,hxx18,hlx2,hix2⟩:=at_T59 HR0.out x5_1 px2 qx2
         obtain rfl:adx1=adx2:=(by injection ex2)
         have HRx2:=Aside0.mk hix2
         have HCx2:=Aside0.mk hlx2
         clear hix2 hlx2
         replace px2:=eq_true px2
         replace qx2:=eq_true qx2
         have ea_:=Option.some.inj (hxx9.symm.trans hxx18)
         injection ea_ with ea_ en_ ec_
         subst ea_
         subst ec_
         clear en_
         have px3:0≤(x5_1:Int):=of_decide_eq_true (by first | (with_reducible assumption) | assumption)
         have qx3:x5_1<(l0.length:Int):=of_decide_eq_true (by first | (with_reducible assumption) | assumption)
         obtain⟨adx3,Ax3,cx3,ex3,hxx19,hxx20,hxx21,hxx22,hxx23,hxx24,hxx25,hxx26,hxx27,hlx3,hix3⟩:=at_T59 HR0.out x5_1 px3 qx3
         obtain rfl:adx1=adx3:=(by injection ex3)
         have HRx3:=Aside0.mk hix3
         have HCx3:=Aside0.mk hlx3
         clear hix3 hlx3
         replace px3:=eq_true px3
         replace qx3:=eq_true qx3
         have ea_:=Option.some.inj (hxx9.symm.trans hxx27)
         injection ea_ with ea_ en_ ec_
         subst ea_
         subst ec_
         clear en_
         have px4:0≤(x5_1:Int):=of_decide_eq_true (by first | (with_reducible assumption) | assumption)
         have qx4:x5_1<(l0.length:Int):=of_decide_eq_true (by first | (with_reducible assumption) | assumption)
         obtain⟨adx4,Ax4,cx4,ex4,hxx28,hxx29,hxx30,hxx31,hxx32,hxx33,hxx34,hxx35,hxx36,hlx4,hix4⟩:=at_T59 HR0.out x5_1 px4 qx4
         obtain rfl:adx1=adx4:=(by injection ex4)
         have HRx4:=Aside0.mk hix4
         have HCx4:=Aside0.mk hlx4
         clear hix4 hlx4
         replace px4:=eq_true px4
         replace qx4:=eq_true qx4
         have ea_:=Option.some.inj (hxx9.symm.trans hxx36)
         injection ea_ with ea_ en_ ec_
         subst ea_
         subst ec_
         clear en_
         have px5:0≤(x5_1:Int):=of_decide_eq_true (by first | (with_reducible assumption) | assumption)
         have qx5:x5_1<(l0.length:Int):=of_decide_eq_true (by first | (with_reducible assumption) | assumption)
         obtain⟨adx5,Ax5,cx5,ex5,hxx37,hxx38,hxx39,hxx40,hxx41,hxx42,hxx43,hxx44,hxx45,hlx5,hix5⟩:=at_T59 HR0.out x5_1 px5 qx5
         obtain rfl:adx1=adx5:=(by injection ex5)
         have HRx5:=Aside0.mk hix5
         have HCx5:=Aside0.mk hlx5
         clear hix5 hlx5
         replace px5:=eq_true px5
         replace qx5:=eq_true qx5
         have ea_:=Option.some.inj (hxx9.symm.trans hxx45)
         injection ea_ with ea_ en_ ec_
         subst ea_
         subst ec_
         clear en_
         go_wp2
         go_ret
         exact⟨by first | rfl | (simp;done) | (simp[*];done),dX⟩
       ·rw[if_neg c8] at H
        obtain⟨c8b0,c8b1⟩:=eqF c8
        obtain rfl:=Option.some.inj H
        have px1:0≤(x5_1:Int):=of_decide_eq_true (by first | (with_reducible assumption) | assumption)
        have qx1:x5_1<(l0.length:Int):=of_decide_eq_true (by first | (with_reducible assumption) | assumption)
        obtain⟨adx1,Ax1,cx1,ex1,hxx1,hxx2,hxx3,hxx4,hxx5,hxx6,hxx7,hxx8,hxx9,hlx1,hix1⟩:=at_T59 HR0.out x5_1 px1 qx1
        cases ex1
        have HRx1:=Aside0.mk hix1
        have HCx1:=Aside0.mk hlx1
        clear hix1 hlx1
        replace px1:=eq_true px1
        replace qx1:=eq_true qx1
        have px2:0≤(x5_1:Int):=of_decide_eq_true (by first | (with_reducible assumption) | assumption)
        have qx2:x5_1<(l0.length:Int):=of_decide_eq_true (by first | (with_reducible assumption) | assumption)
        obtain⟨adx2,Ax2,cx2,ex2,hxx10,hxx11,hxx12,hxx13,hxx14,hxx15,hxx16,hxx17,hxx18,hlx2,hix2⟩:=at_T59 HR0.out x5_1 px2 qx2
        obtain rfl:adx1=adx2:=(by injection ex2)
        have HRx2:=Aside0.mk hix2
        have HCx2:=Aside0.mk hlx2
        clear hix2 hlx2
        replace px2:=eq_true px2
        replace qx2:=eq_true qx2
        have ea_:=Option.some.inj (hxx9.symm.trans hxx18)
        injection ea_ with ea_ en_ ec_
        subst ea_
        subst ec_
        clear en_
        have px3:0≤(x5_1:Int):=of_decide_eq_true (by first | (with_reducible assumption) | assumption)
        have qx3:x5_1<(l0.length:Int):=of_decide_eq_true (by first | (with_reducible assumption) | assumption)
        obtain⟨adx3,Ax3,cx3,ex3,hxx19,hxx20,hxx21,hxx22,hxx23,hxx24,hxx25,hxx26,hxx27,hlx3,hix3⟩:=at_T59 HR0.out x5_1 px3 qx3
        obtain rfl:adx1=adx3:=(by injection ex3)
        have HRx3:=Aside0.mk hix3
        have HCx3:=Aside0.mk hlx3
        clear hix3 hlx3
        replace px3:=eq_true px3
        replace qx3:=eq_true qx3
        have ea_:=Option.some.inj (hxx9.symm.trans hxx27)
        injection ea_ with ea_ en_ ec_
        subst ea_
        subst ec_
        clear en_
        have px4:0≤(x5_1:Int):=of_decide_eq_true (by first | (with_reducible assumption) | assumption)
        have qx4:x5_1<(l0.length:Int):=of_decide_eq_true (by first | (with_reducible assumption) | assumption)
        obtain⟨adx4,Ax4,cx4,ex4,hxx28,hxx29,hxx30,hxx31,hxx32,hxx33,hxx34,hxx35,hxx36,hlx4,hix4⟩:=at_T59 HR0.out x5_1 px4 qx4
        obtain rfl:adx1=adx4:=(by injection ex4)
        have HRx4:=Aside0.mk hix4
        have HCx4:=Aside0.mk hlx4
        clear hix4 hlx4
        replace px4:=eq_true px4
        replace qx4:=eq_true qx4
        have ea_:=Option.some.inj (hxx9.symm.trans hxx36)
        injection ea_ with ea_ en_ ec_
        subst ea_
        subst ec_
        clear en_
        go_wp2
        go_ret
        exact⟨by first | rfl | (simp;done) | (simp[*];done),dX⟩
      ·rw[if_neg c7] at H
       obtain⟨c7b0,c7b1⟩:=eqF c7
       obtain rfl:=Option.some.inj H
       have px1:0≤(x5_1:Int):=of_decide_eq_true (by first | (with_reducible assumption) | assumption)
       have qx1:x5_1<(l0.length:Int):=of_decide_eq_true (by first | (with_reducible assumption) | assumption)
       obtain⟨adx1,Ax1,cx1,ex1,hxx1,hxx2,hxx3,hxx4,hxx5,hxx6,hxx7,hxx8,hxx9,hlx1,hix1⟩:=at_T59 HR0.out x5_1 px1 qx1
       cases ex1
       have HRx1:=Aside0.mk hix1
       have HCx1:=Aside0.mk hlx1
       clear hix1 hlx1
       replace px1:=eq_true px1
       replace qx1:=eq_true qx1
       have px2:0≤(x5_1:Int):=of_decide_eq_true (by first | (with_reducible assumption) | assumption)
       have qx2:x5_1<(l0.length:Int):=of_decide_eq_true (by first | (with_reducible assumption) | assumption)
       obtain⟨adx2,Ax2,cx2,ex2,hxx10,hxx11,hxx12,hxx13,hxx14,hxx15,hxx16,hxx17,hxx18,hlx2,hix2⟩:=at_T59 HR0.out x5_1 px2 qx2
       obtain rfl:adx1=adx2:=(by injection ex2)
       have HRx2:=Aside0.mk hix2
       have HCx2:=Aside0.mk hlx2
       clear hix2 hlx2
       replace px2:=eq_true px2
       replace qx2:=eq_true qx2
       have ea_:=Option.some.inj (hxx9.symm.trans hxx18)
       injection ea_ with ea_ en_ ec_
       subst ea_
       subst ec_
       clear en_
       have px3:0≤(x5_1:Int):=of_decide_eq_true (by first | (with_reducible assumption) | assumption)
       have qx3:x5_1<(l0.length:Int):=of_decide_eq_true (by first | (with_reducible assumption) | assumption)
       obtain⟨adx3,Ax3,cx3,ex3,hxx19,hxx20,hxx21,hxx22,hxx23,hxx24,hxx25,hxx26,hxx27,hlx3,hix3⟩:=at_T59 HR0.out x5_1 px3 qx3
       obtain rfl:adx1=adx3:=(by injection ex3)
       have HRx3:=Aside0.mk hix3
       have HCx3:=Aside0.mk hlx3
       clear hix3 hlx3
       replace px3:=eq_true px3
       replace qx3:=eq_true qx3
       have ea_:=Option.some.inj (hxx9.symm.trans hxx27)
       injection ea_ with ea_ en_ ec_
       subst ea_
       subst ec_
       clear en_
       go_wp2
       go_ret
       exact⟨by first | rfl | (simp;done) | (simp[*];done),dX⟩
     ·rw[if_neg c6] at H
      obtain⟨c6b0,c6b1⟩:=eqF c6
      obtain rfl:=Option.some.inj H
      have px1:0≤(x5_1:Int):=of_decide_eq_true (by first | (with_reducible assumption) | assumption)
      have qx1:x5_1<(l0.length:Int):=of_decide_eq_true (by first | (with_reducible assumption) | assumption)
      obtain⟨adx1,Ax1,cx1,ex1,hxx1,hxx2,hxx3,hxx4,hxx5,hxx6,hxx7,hxx8,hxx9,hlx1,hix1⟩:=at_T59 HR0.out x5_1 px1 qx1
      cases ex1
      have HRx1:=Aside0.mk hix1
      have HCx1:=Aside0.mk hlx1
      clear hix1 hlx1
      replace px1:=eq_true px1
      replace qx1:=eq_true qx1
      have px2:0≤(x5_1:Int):=of_decide_eq_true (by first | (with_reducible assumption) | assumption)
      have qx2:x5_1<(l0.length:Int):=of_decide_eq_true (by first | (with_reducible assumption) | assumption)
      obtain⟨adx2,Ax2,cx2,ex2,hxx10,hxx11,hxx12,hxx13,hxx14,hxx15,hxx16,hxx17,hxx18,hlx2,hix2⟩:=at_T59 HR0.out x5_1 px2 qx2
      obtain rfl:adx1=adx2:=(by injection ex2)
      have HRx2:=Aside0.mk hix2
      have HCx2:=Aside0.mk hlx2
      clear hix2 hlx2
      replace px2:=eq_true px2
      replace qx2:=eq_true qx2
      have ea_:=Option.some.inj (hxx9.symm.trans hxx18)
      injection ea_ with ea_ en_ ec_
      subst ea_
      subst ec_
      clear en_
      go_wp2
      go_ret
      exact⟨by first | rfl | (simp;done) | (simp[*];done),dX⟩
    ·rw[if_neg c5] at H
     obtain⟨c5b0,c5b1⟩:=eqF c5
     obtain rfl:=Option.some.inj H
     have px1:0≤(x5_1:Int):=of_decide_eq_true (by first | (with_reducible assumption) | assumption)
     have qx1:x5_1<(l0.length:Int):=of_decide_eq_true (by first | (with_reducible assumption) | assumption)
     obtain⟨adx1,Ax1,cx1,ex1,hxx1,hxx2,hxx3,hxx4,hxx5,hxx6,hxx7,hxx8,hxx9,hlx1,hix1⟩:=at_T59 HR0.out x5_1 px1 qx1
     cases ex1
     have HRx1:=Aside0.mk hix1
     have HCx1:=Aside0.mk hlx1
     clear hix1 hlx1
     replace px1:=eq_true px1
     replace qx1:=eq_true qx1
     go_wp2
     go_ret
     exact⟨by first | rfl | (simp;done) | (simp[*];done),dX⟩
   ·rw[if_neg c3] at H
    have c3b0:=decide_eq_false c3
    clear c3
    obtain rfl:=Option.some.inj H
    go_wp2
    go_ret
    exact⟨by first | rfl | (simp;done) | (simp[*];done),dX⟩
end Go.Proofs.Yteamagejhbkhnaa.P
