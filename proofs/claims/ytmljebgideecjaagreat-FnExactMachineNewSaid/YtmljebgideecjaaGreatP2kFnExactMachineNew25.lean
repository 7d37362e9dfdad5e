/- A part of the proof of the law FnExactMachineNew: texts of this seat, merged (words, printed functions of the program, plain lemmas). Conditions: none of its own. -/
import Derived.Test.YtmljebgideecjaaGreatP2kFnExactMachineNew19
import Derived.Test.YtmljebgideecjaaGreatP2kFnExactMachineNew21
set_option linter.unusedSimpArgs false
set_option linter.unusedVariables false
set_option maxHeartbeats 8000000
set_option maxRecDepth 100000
namespace Go.Proofs.YtmljebgideecjaaGreat.P2
open Go.Proofs.YtmljebgideecjaaGreatZ Go.RowKit Go.Proofs.YtmljebgideecjaaGreatW.PrintWords Go.Proofs.YtmljebgideecjaaGreatW.PrintLast Go.Proofs.YtmljebgideecjaaGreatW.PrintMore
attribute [local go_sem] max2_int min2_int max_two min_two max_three min_three max_four min_four   -- for this text's walks alone
def Xw.l0:Nat→List (S162)→List (S162)→Int→Option (Bool)
 | 0,_,_,_=>none
 | k+1,x0,x1,x5=>if x5<(x0.length:Int) then (if 0≤x5 then (if x5<(x1.length:Int) then ((XaR.f k ((rd_T162 x0 x5).f0) ((rd_T162 x0 x5).f1) ((rd_T162 x0 x5).f2) ((rd_T162 x0 x5).f3.f0) ((rd_T162 x0 x5).f3.f1) ((rd_T162 x1 x5).f0) ((rd_T162 x1 x5).f1) ((rd_T162 x1 x5).f2) ((rd_T162 x1 x5).f3.f0) ((rd_T162 x1 x5).f3.f1)).bind fun t103=>(if t103=true then (Xw.l0 k x0 x1 (wrap64 (x5+1))) else (some false))) else (none)) else (none)) else (some true)
def Xw.f (k:Nat) (l0:List (S162)) (l1:List (S162)):Option (Bool):=if (l0.length:Int)=(l1.length:Int) then (Xw.l0 k l0 l1 0) else (some false)
def Xw.T6:Bool × List (List Nat × List Nat):=(true,[([],[]),([],[]),([0,1],[0,1]),([2],[2]),([],[]),([],[]),([4,5],[4,5]),([6],[6]),([3,7],[3,7]),([8],[8])])
def Xw.B6:List Nat:=[0,0,3,7,0,0,48,112,255,511]
theorem Xw.tab6:rtab .any (opsOf Tryz.f110 6)=Xw.T6:=by kernel_rfl
theorem Xw.bits6:waitsOk Xw.T6.2 Xw.B6=true:=by kernel_rfl
theorem Xw.calls (k:Nat) (A0:Option Addr) (c0:Nat) (l0:List (S162)) (A1:Option Addr) (c1:Nat) (l1:List (S162)) (r:Bool) (w:World) (h0:Rw k162 w A0 c0 l0) (h1:Rw k162 w A1 c1 l1) (H:Xw.f k l0 l1=some r) :
  Calls Tryz.prog 110 #[.slice A0 l0.length c0,.slice A1 l1.length c1] w fun e w'=>e = .returned (.bool r)∧Below w.heap.size w w':=by
 have hu162:=Tryz.underlying162
 obtain⟨HR0,HC0⟩:=h0
 obtain⟨HR1,HC1⟩:=h1
 have HB:=aM (Below.refl w.heap.size w)
 unfold Xw.f at H
 go_enter Tryz.func110,Tryz.ntmps110
 by_cases c3:(l0.length:Int)=(l1.length:Int)
 case neg =>
  rw[if_neg c3] at H
  obtain⟨c3b0,c3b1⟩:=eqF c3
  have c3b2:(l0.length == l1.length)=false:=by first | simpa using c3 | (simp at c3 ⊢;omega)
  exact fR
 rw[if_pos c3] at H
 obtain⟨c3b0,c3b1⟩:=eqT c3
 have c3b2:(l0.length == l1.length)=true:=by first | simpa using c3 | (simp at c3 ⊢;omega)
 clear c3
 have H':=aM H
 clear H
 go_wp2
 go_loopg [5] k (fun kq v5 w'=>∃ (x5_1:Int),v5 = .int .i64 x5_1∧Aside0 (Xw.l0 kq l0 l1 x5_1=some r)∧Aside0 (kq≤k)∧Aside0 (Below w.heap.size w w'))
 case atStart=>exact⟨(0),rS,H',⟨Nat.le_refl _⟩,⟨(hX HB.out)⟩⟩
 case round =>
  clear H'
  try clear c3
  try clear c3b0
  try clear c3b1
  try clear c3b2
  obtain⟨x5_1,rfl,HA,HKy1,HB⟩:=hrel
  cases gk with
  | zero=>exact absurd HA.out (by simp[Xw.l0])
  | succ k1 =>
   have H:=HA.out
   clear HA
   simp only[Xw.l0] at H
   revert H;refine iN ?_ ?_<;>intro c4b0 H
   ·obtain rfl:=sI H
    exact fS
   replace H:=ifQ H;obtain⟨c5b0,H⟩:=H
   replace H:=ifQ H;obtain⟨c6b0,H⟩:=H
   replace H:=bE H;obtain⟨t103,A7,H⟩:=H
   try go_wp2
   obtain⟨adx1,Ax1,cx1,Ax2,cx2,ex1,px1,qx1,hxx1,HCx1,HRx1,HCx2,HRx2⟩:=at_T162c HR0 HB x5_1
   cases ex1
   obtain⟨adx2,Ax3,cx3,Ax4,cx4,ex2,px2,qx2,hxx6,HCx3,HRx3,HCx4,HRx4⟩:=at_T162c HR1 HB x5_1
   cases ex2
   refine sR0 10 Xw.tab6 Xw.bits6 (fun HT_ HW_ hHeld => ?_)
   refine zA 0 ?_
   refine zA 1 ?_
   refine zA 2 ?_
   refine zA 4 ?_
   refine zA 5 ?_
   refine zA 6 ?_
   refine tA 3 ?_
   refine tA 7 ?_
   cases t103
   case false =>
    rw[if_neg nft] at H
    obtain rfl:=sI H
    refine eB 8 Tryz.func187 (XaR.calls k1 ((rd_T162 l0 x5_1).f0) ((rd_T162 l0 x5_1).f1) _ _ ((rd_T162 l0 x5_1).f2) ((rd_T162 l0 x5_1).f3.f0) _ _ ((rd_T162 l0 x5_1).f3.f1) ((rd_T162 l1 x5_1).f0) ((rd_T162 l1 x5_1).f1) _ _ ((rd_T162 l1 x5_1).f2) ((rd_T162 l1 x5_1).f3.f0) _ _ ((rd_T162 l1 x5_1).f3.f1) false _ (rW HRx1 HB HCx1) (rW HRx2 HB HCx2) (rW HRx3 HB HCx3) (rW HRx4 HB HCx4) A7.out) (fun wx2 hb hHeld => ?_)
    replace HB:=aS HB hb
    (try clear hb)
    refine zA 9 ?_
    refine dA ?_
    try go_wp2
    go_ret
    exact⟨rE,(hX HB.out)⟩
   rw[if_pos rfl] at H
   have H':=aM H
   clear H
   refine eB 8 Tryz.func187 (XaR.calls k1 ((rd_T162 l0 x5_1).f0) ((rd_T162 l0 x5_1).f1) _ _ ((rd_T162 l0 x5_1).f2) ((rd_T162 l0 x5_1).f3.f0) _ _ ((rd_T162 l0 x5_1).f3.f1) ((rd_T162 l1 x5_1).f0) ((rd_T162 l1 x5_1).f1) _ _ ((rd_T162 l1 x5_1).f2) ((rd_T162 l1 x5_1).f3.f0) _ _ ((rd_T162 l1 x5_1).f3.f1) true _ (rW HRx1 HB HCx1) (rW HRx2 HB HCx2) (rW HRx3 HB HCx3) (rW HRx4 HB HCx4) A7.out) (fun wx2 hb hHeld => ?_)
   replace HB:=aS HB hb
   (try clear hb)
   refine zA 9 ?_
   refine dA ?_
   try go_wp2
   go_roundg k1
   case measure=>have:=HKy1.out;omega
   case rel=>exact⟨(wrap64 (x5_1+1)),rS,H',⟨by have:=HKy1.out;omega⟩,⟨(hX HB.out)⟩⟩
def Xp.l0:Nat→List (S97)→List (S97)→Int→Option (Bool)
 | 0,_,_,_=>none
 | k+1,x0,x1,x5=>if x5<(x0.length:Int) then (if 0≤x5 then (if x5<(x1.length:Int) then ((XaG.f k ((rd_T97 x0 x5).f0) ((rd_T97 x0 x5).f1) ((rd_T97 x0 x5).f2) ((rd_T97 x0 x5).f3) ((rd_T97 x0 x5).f4) ((rd_T97 x1 x5).f0) ((rd_T97 x1 x5).f1) ((rd_T97 x1 x5).f2) ((rd_T97 x1 x5).f3) ((rd_T97 x1 x5).f4)).bind fun t103=>(if t103=true then (Xp.l0 k x0 x1 (wrap64 (x5+1))) else (some false))) else (none)) else (none)) else (some true)
def Xp.f (k:Nat) (l0:List (S97)) (l1:List (S97)):Option (Bool):=if (l0.length:Int)=(l1.length:Int) then (Xp.l0 k l0 l1 0) else (some false)
def Xp.T6:Bool × List (List Nat × List Nat):=(true,[([],[]),([],[]),([0,1],[0,1]),([2],[2]),([],[]),([],[]),([4,5],[4,5]),([6],[6]),([3,7],[3,7]),([8],[8])])
def Xp.B6:List Nat:=[0,0,3,7,0,0,48,112,255,511]
theorem Xp.tab6:rtab .any (opsOf Tryz.f51 6)=Xp.T6:=by kernel_rfl
theorem Xp.bits6:waitsOk Xp.T6.2 Xp.B6=true:=by kernel_rfl
theorem Xp.calls (k:Nat) (A0:Option Addr) (c0:Nat) (l0:List (S97)) (A1:Option Addr) (c1:Nat) (l1:List (S97)) (r:Bool) (w:World) (h0:Rw k97 w A0 c0 l0) (h1:Rw k97 w A1 c1 l1) (H:Xp.f k l0 l1=some r) :
  Calls Tryz.prog 51 #[.slice A0 l0.length c0,.slice A1 l1.length c1] w fun e w'=>e = .returned (.bool r)∧Below w.heap.size w w':=by
 have hu97:=Tryz.underlying97
 obtain⟨HR0,HC0⟩:=h0
 obtain⟨HR1,HC1⟩:=h1
 have HB:=aM (Below.refl w.heap.size w)
 unfold Xp.f at H
 go_enter Tryz.func51,Tryz.ntmps51
 by_cases c3:(l0.length:Int)=(l1.length:Int)
 case neg =>
  rw[if_neg c3] at H
  obtain⟨c3b0,c3b1⟩:=eqF c3
  have c3b2:(l0.length == l1.length)=false:=by first | simpa using c3 | (simp at c3 ⊢;omega)
  exact fR
 rw[if_pos c3] at H
 obtain⟨c3b0,c3b1⟩:=eqT c3
 have c3b2:(l0.length == l1.length)=true:=by first | simpa using c3 | (simp at c3 ⊢;omega)
 clear c3
 have H':=aM H
 clear H
 go_wp2
 go_loopg [5] k (fun kq v5 w'=>∃ (x5_1:Int),v5 = .int .i64 x5_1∧Aside0 (Xp.l0 kq l0 l1 x5_1=some r)∧Aside0 (kq≤k)∧Aside0 (Below w.heap.size w w'))
 case atStart=>exact⟨(0),rS,H',⟨Nat.le_refl _⟩,⟨(hX HB.out)⟩⟩
 case round =>
  clear H'
  try clear c3
  try clear c3b0
  try clear c3b1
  try clear c3b2
  obtain⟨x5_1,rfl,HA,HKy1,HB⟩:=hrel
  cases gk with
  | zero=>exact absurd HA.out (by simp[Xp.l0])
  | succ k1 =>
   have H:=HA.out
   clear HA
   simp only[Xp.l0] at H
   revert H;refine iN ?_ ?_<;>intro c4b0 H
   ·obtain rfl:=sI H
    exact fS
   replace H:=ifQ H;obtain⟨c5b0,H⟩:=H
   replace H:=ifQ H;obtain⟨c6b0,H⟩:=H
   replace H:=bE H;obtain⟨t103,A7,H⟩:=H
   try go_wp2
   obtain⟨adx1,Ax1,cx1,Ax2,cx2,Ax3,cx3,ex1,px1,qx1,hxx1,HCx1,HRx1,HCx2,HRx2,HCx3,HRx3⟩:=at_T97c HR0 HB x5_1
   cases ex1
   obtain⟨adx2,Ax4,cx4,Ax5,cx5,Ax6,cx6,ex2,px2,qx2,hxx6,HCx4,HRx4,HCx5,HRx5,HCx6,HRx6⟩:=at_T97c HR1 HB x5_1
   cases ex2
   refine sR0 10 Xp.tab6 Xp.bits6 (fun HT_ HW_ hHeld => ?_)
   refine zA 0 ?_
   refine zA 1 ?_
   refine zA 2 ?_
   refine zA 4 ?_
   refine zA 5 ?_
   refine zA 6 ?_
   refine tA 3 ?_
   refine tA 7 ?_
   cases t103
   case false =>
    rw[if_neg nft] at H
    obtain rfl:=sI H
    refine eB 8 Tryz.func111 (XaG.calls k1 _ _ ((rd_T97 l0 x5_1).f0) ((rd_T97 l0 x5_1).f1) ((rd_T97 l0 x5_1).f2) _ _ ((rd_T97 l0 x5_1).f3) _ _ ((rd_T97 l0 x5_1).f4) _ _ ((rd_T97 l1 x5_1).f0) ((rd_T97 l1 x5_1).f1) ((rd_T97 l1 x5_1).f2) _ _ ((rd_T97 l1 x5_1).f3) _ _ ((rd_T97 l1 x5_1).f4) false _ (rW HRx1 HB HCx1) (rW HRx2 HB HCx2) (rW HRx3 HB HCx3) (rW HRx4 HB HCx4) (rW HRx5 HB HCx5) (rW HRx6 HB HCx6) A7.out) (fun wx2 hb hHeld => ?_)
    replace HB:=aS HB hb
    (try clear hb)
    refine zA 9 ?_
    refine dA ?_
    try go_wp2
    go_ret
    exact⟨rE,(hX HB.out)⟩
   rw[if_pos rfl] at H
   have H':=aM H
   clear H
   refine eB 8 Tryz.func111 (XaG.calls k1 _ _ ((rd_T97 l0 x5_1).f0) ((rd_T97 l0 x5_1).f1) ((rd_T97 l0 x5_1).f2) _ _ ((rd_T97 l0 x5_1).f3) _ _ ((rd_T97 l0 x5_1).f4) _ _ ((rd_T97 l1 x5_1).f0) ((rd_T97 l1 x5_1).f1) ((rd_T97 l1 x5_1).f2) _ _ ((rd_T97 l1 x5_1).f3) _ _ ((rd_T97 l1 x5_1).f4) true _ (rW HRx1 HB HCx1) (rW HRx2 HB HCx2) (rW HRx3 HB HCx3) (rW HRx4 HB HCx4) (rW HRx5 HB HCx5) (rW HRx6 HB HCx6) A7.out) (fun wx2 hb hHeld => ?_)
   replace HB:=aS HB hb
   (try clear hb)
   refine zA 9 ?_
   refine dA ?_
   try go_wp2
   go_roundg k1
   case measure=>have:=HKy1.out;omega
   case rel=>exact⟨(wrap64 (x5_1+1)),rS,H',⟨by have:=HKy1.out;omega⟩,⟨(hX HB.out)⟩⟩
def Xx.l0:Nat→List (S73)→List (S73)→Int→Option (Bool)
 | 0,_,_,_=>none
 | k+1,x0,x1,x5=>if x5<(x0.length:Int) then (if 0≤x5 then (if x5<(x1.length:Int) then ((XaS.f k ((rd_T73 x0 x5).f0) ((rd_T73 x0 x5).f1.f0) ((rd_T73 x0 x5).f1.f1) ((rd_T73 x0 x5).f1.f2) ((rd_T73 x0 x5).f2) ((rd_T73 x0 x5).f3) ((rd_T73 x0 x5).f4) ((rd_T73 x0 x5).f5.f0) ((rd_T73 x0 x5).f5.f1) ((rd_T73 x1 x5).f0) ((rd_T73 x1 x5).f1.f0) ((rd_T73 x1 x5).f1.f1) ((rd_T73 x1 x5).f1.f2) ((rd_T73 x1 x5).f2) ((rd_T73 x1 x5).f3) ((rd_T73 x1 x5).f4) ((rd_T73 x1 x5).f5.f0) ((rd_T73 x1 x5).f5.f1)).bind fun t103=>(if t103=true then (Xx.l0 k x0 x1 (wrap64 (x5+1))) else (some false))) else (none)) else (none)) else (some true)
def Xx.f (k:Nat) (l0:List (S73)) (l1:List (S73)):Option (Bool):=if (l0.length:Int)=(l1.length:Int) then (Xx.l0 k l0 l1 0) else (some false)
def Xx.T6:Bool × List (List Nat × List Nat):=(true,[([],[]),([],[]),([0,1],[0,1]),([2],[2]),([],[]),([],[]),([4,5],[4,5]),([6],[6]),([3,7],[3,7]),([8],[8])])
def Xx.B6:List Nat:=[0,0,3,7,0,0,48,112,255,511]
theorem Xx.tab6:rtab .any (opsOf Tryz.f52 6)=Xx.T6:=by kernel_rfl
theorem Xx.bits6:waitsOk Xx.T6.2 Xx.B6=true:=by kernel_rfl
theorem Xx.calls (k:Nat) (A0:Option Addr) (c0:Nat) (l0:List (S73)) (A1:Option Addr) (c1:Nat) (l1:List (S73)) (r:Bool) (w:World) (h0:Rw k73 w A0 c0 l0) (h1:Rw k73 w A1 c1 l1) (H:Xx.f k l0 l1=some r) :
  Calls Tryz.prog 52 #[.slice A0 l0.length c0,.slice A1 l1.length c1] w fun e w'=>e = .returned (.bool r)∧Below w.heap.size w w':=by
 have hu73:=Tryz.underlying73
 obtain⟨HR0,HC0⟩:=h0
 obtain⟨HR1,HC1⟩:=h1
 have HB:=aM (Below.refl w.heap.size w)
 unfold Xx.f at H
 go_enter Tryz.func52,Tryz.ntmps52
 by_cases c3:(l0.length:Int)=(l1.length:Int)
 case neg =>
  rw[if_neg c3] at H
  obtain⟨c3b0,c3b1⟩:=eqF c3
  have c3b2:(l0.length == l1.length)=false:=by first | simpa using c3 | (simp at c3 ⊢;omega)
  exact fR
 rw[if_pos c3] at H
 obtain⟨c3b0,c3b1⟩:=eqT c3
 have c3b2:(l0.length == l1.length)=true:=by first | simpa using c3 | (simp at c3 ⊢;omega)
 clear c3
 have H':=aM H
 clear H
 go_wp2
 go_loopg [5] k (fun kq v5 w'=>∃ (x5_1:Int),v5 = .int .i64 x5_1∧Aside0 (Xx.l0 kq l0 l1 x5_1=some r)∧Aside0 (kq≤k)∧Aside0 (Below w.heap.size w w'))
 case atStart=>exact⟨(0),rS,H',⟨Nat.le_refl _⟩,⟨(hX HB.out)⟩⟩
 case round =>
  clear H'
  try clear c3
  try clear c3b0
  try clear c3b1
  try clear c3b2
  obtain⟨x5_1,rfl,HA,HKy1,HB⟩:=hrel
  cases gk with
  | zero=>exact absurd HA.out (by simp[Xx.l0])
  | succ k1 =>
   have H:=HA.out
   clear HA
   simp only[Xx.l0] at H
   revert H;refine iN ?_ ?_<;>intro c4b0 H
   ·obtain rfl:=sI H
    exact fS
   replace H:=ifQ H;obtain⟨c5b0,H⟩:=H
   replace H:=ifQ H;obtain⟨c6b0,H⟩:=H
   replace H:=bE H;obtain⟨t103,A7,H⟩:=H
   try go_wp2
   obtain⟨adx1,Ax1,cx1,ex1,px1,qx1,hxx1,HCx1,HRx1⟩:=at_T73c HR0 HB x5_1
   cases ex1
   obtain⟨adx2,Ax2,cx2,ex2,px2,qx2,hxx10,HCx2,HRx2⟩:=at_T73c HR1 HB x5_1
   cases ex2
   refine sR0 10 Xx.tab6 Xx.bits6 (fun HT_ HW_ hHeld => ?_)
   refine zA 0 ?_
   refine zA 1 ?_
   refine zA 2 ?_
   refine zA 4 ?_
   refine zA 5 ?_
   refine zA 6 ?_
   refine tA 3 ?_
   refine tA 7 ?_
   cases t103
   case false =>
    rw[if_neg nft] at H
    obtain rfl:=sI H
    refine eB 8 Tryz.func112 (XaS.calls k1 ((rd_T73 l0 x5_1).f0) ((rd_T73 l0 x5_1).f1.f0) ((rd_T73 l0 x5_1).f1.f1) ((rd_T73 l0 x5_1).f1.f2) ((rd_T73 l0 x5_1).f2) ((rd_T73 l0 x5_1).f3) ((rd_T73 l0 x5_1).f4) ((rd_T73 l0 x5_1).f5.f0) _ _ ((rd_T73 l0 x5_1).f5.f1) ((rd_T73 l1 x5_1).f0) ((rd_T73 l1 x5_1).f1.f0) ((rd_T73 l1 x5_1).f1.f1) ((rd_T73 l1 x5_1).f1.f2) ((rd_T73 l1 x5_1).f2) ((rd_T73 l1 x5_1).f3) ((rd_T73 l1 x5_1).f4) ((rd_T73 l1 x5_1).f5.f0) _ _ ((rd_T73 l1 x5_1).f5.f1) false _ (rW HRx1 HB HCx1) (rW HRx2 HB HCx2) A7.out) (fun wx2 hb hHeld => ?_)
    replace HB:=aS HB hb
    (try clear hb)
    refine zA 9 ?_
    refine dA ?_
    try go_wp2
    go_ret
    exact⟨rE,(hX HB.out)⟩
   rw[if_pos rfl] at H
   have H':=aM H
   clear H
   refine eB 8 Tryz.func112 (XaS.calls k1 ((rd_T73 l0 x5_1).f0) ((rd_T73 l0 x5_1).f1.f0) ((rd_T73 l0 x5_1).f1.f1) ((rd_T73 l0 x5_1).f1.f2) ((rd_T73 l0 x5_1).f2) ((rd_T73 l0 x5_1).f3) ((rd_T73 l0 x5_1).f4) ((rd_T73 l0 x5_1).f5.f0) _ _ ((rd_T73 l0 x5_1).f5.f1) ((rd_T73 l1 x5_1).f0) ((rd_T73 l1 x5_1).f1.f0) ((rd_T73 l1 x5_1).f1.f1) ((rd_T73 l1 x5_1).f1.f2) ((rd_T73 l1 x5_1).f2) ((rd_T73 l1 x5_1).f3) ((rd_T73 l1 x5_1).f4) ((rd_T73 l1 x5_1).f5.f0) _ _ ((rd_T73 l1 x5_1).f5.f1) true _ (rW HRx1 HB HCx1) (rW HRx2 HB HCx2) A7.out) (fun wx2 hb hHeld => ?_)
   replace HB:=aS HB hb
   (try clear hb)
   refine zA 9 ?_
   refine dA ?_
   try go_wp2
   go_roundg k1
   case measure=>have:=HKy1.out;omega
   case rel=>exact⟨(wrap64 (x5_1+1)),rS,H',⟨by have:=HKy1.out;omega⟩,⟨(hX HB.out)⟩⟩
def XaT.f (k:Nat) (l0_0:List (S140)) (l0_1:List (S162)) (l0_2:List (S97)) (a0_3:Int) (l0_4:List (S73)) (l0_5:List Int) (l0_6:List Int) (a0_7:Int) (a1_0:Int) (a1_1:Int) (a1_2:Int) (a1_3:Int) (a1_4:Int) (a1_5:Int) (a1_6:Int) (a1_7:Int) (l1_8:List Int):Option (Bool):=(Xb.f a1_0 0 (wrap64 ((l0_2.length:Int) - 1))).bind fun t103=>(if t103=true then ((XT.f k a1_1 a1_2 a1_3).bind fun t104=>(if t104=true then ((Xb.f a1_4 0 a0_3).bind fun t105=>(if t105=true then (if a1_5=(-1) then (if a1_6=(-1) then (some true) else ((Xb.f a1_6 a1_4 a0_3).bind fun t106=>(some t106))) else ((Xb.f a1_5 a1_4 a0_3).bind fun t107=>(if t107=true then (if a1_6=(-1) then (some true) else ((Xb.f a1_6 a1_4 a0_3).bind fun t108=>(some t108))) else (some false)))) else (some false))) else (some false))) else (some false))
theorem XaT.calls (k:Nat) (A0_0:Option Addr) (c0_0:Nat) (l0_0:List (S140)) (A0_1:Option Addr) (c0_1:Nat) (l0_1:List (S162)) (A0_2:Option Addr) (c0_2:Nat) (l0_2:List (S97)) (a0_3:Int) (A0_4:Option Addr) (c0_4:Nat) (l0_4:List (S73)) (A0_5:Option Addr) (c0_5:Nat) (l0_5:List Int) (A0_6:Option Addr) (c0_6:Nat) (l0_6:List Int) (a0_7:Int) (a1_0:Int) (a1_1:Int) (a1_2:Int) (a1_3:Int) (a1_4:Int) (a1_5:Int) (a1_6:Int) (a1_7:Int) (A1_8:Option Addr) (c1_8:Nat) (l1_8:List Int) (r:Bool) (w:World) (h0_0:Rw k140 w A0_0 c0_0 l0_0) (h0_1:Rw k162 w A0_1 c0_1 l0_1) (h0_2:Rw k97 w A0_2 c0_2 l0_2) (h0_4:Rw k73 w A0_4 c0_4 l0_4) (h0_5:Rw (Kd.int .i64) w A0_5 c0_5 l0_5) (h0_6:Rw (Kd.int .i64) w A0_6 c0_6 l0_6) (h1_8:Rw (Kd.int .i64) w A1_8 c1_8 l1_8) (H:XaT.f k l0_0 l0_1 l0_2 a0_3 l0_4 l0_5 l0_6 a0_7 a1_0 a1_1 a1_2 a1_3 a1_4 a1_5 a1_6 a1_7 l1_8=some r) :
  Calls Tryz.prog 161 #[.agg #[.slice A0_0 l0_0.length c0_0,.slice A0_1 l0_1.length c0_1,.slice A0_2 l0_2.length c0_2,.int .i64 a0_3,.slice A0_4 l0_4.length c0_4,.slice A0_5 l0_5.length c0_5,.slice A0_6 l0_6.length c0_6,.int .i64 a0_7],.agg #[.int .i64 a1_0,.int .i64 a1_1,.int .i64 a1_2,.int .i64 a1_3,.int .i64 a1_4,.int .i64 a1_5,.int .i64 a1_6,.int .i64 a1_7,.slice A1_8 l1_8.length c1_8]] w fun e w'=>e = .returned (.bool r)∧Below w.heap.size w w':=by
 have hu43:=Tryz.underlying43
 have hu73:=Tryz.underlying73
 have hu69:=Tryz.underlying69
 obtain⟨HR0_0,HC0_0⟩:=h0_0
 obtain⟨HR0_1,HC0_1⟩:=h0_1
 obtain⟨HR0_2,HC0_2⟩:=h0_2
 obtain⟨HR0_4,HC0_4⟩:=h0_4
 obtain⟨HR0_5,HC0_5⟩:=h0_5
 obtain⟨HR0_6,HC0_6⟩:=h0_6
 obtain⟨HR1_8,HC1_8⟩:=h1_8
 have HB:=aM (Below.refl w.heap.size w)
 unfold XaT.f at H
 replace H:=bE H;obtain⟨t103,A3,H⟩:=H
 go_enter Tryz.func161,Tryz.ntmps161
 go_wp2_with (first | ((with_reducible refine gate_dst (N:=2) rfl ?_);refine boxE 2 #[.slice A0_0 l0_0.length c0_0,.slice A0_1 l0_1.length c0_1,.slice A0_2 l0_2.length c0_2,.int .i64 a0_3,.slice A0_4 l0_4.length c0_4,.slice A0_5 l0_5.length c0_5,.slice A0_6 l0_6.length c0_6,.int .i64 a0_7] 43 ?_;intro gbz1 hg wz1 hbox hb;have BKz1:=aM (hbox);have GWz1:=aG hg HB;replace HB:=aS HB hb;clear hb hbox hg) | ((with_reducible refine gate_dst (N:=3) rfl ?_);refine boxE 3 #[.int .i64 a1_0,.int .i64 a1_1,.int .i64 a1_2,.int .i64 a1_3,.int .i64 a1_4,.int .i64 a1_5,.int .i64 a1_6,.int .i64 a1_7,.slice A1_8 l1_8.length c1_8] 73 ?_;intro gbz2 hg wz2 hbox hb;have BKz2:=aM (hbox);have GWz2:=aG hg HB;have NBz1:=aL hg BKz1;have NBz2:=aR hg BKz1;replace BKz1:=aB BKz1 hb;replace HB:=aS HB hb;clear hb hbox hg;have hnbz1:=nB NBz2 NBz1;have hczz1:=cZ9 BKz2.out;have hczz10:=cZ8 BKz1.out;refine Stop.out ?_))
 refine⟨?_⟩
 cases t103
 case false =>
  rw[if_neg nft] at H
  obtain rfl:=sI H
  go_wp2_with ((with_reducible refine gate_callee (f:=43) rfl ?_);refine gD 43 11 Tryz.func43 (Xb.calls _ _ _ _ _ A3.out) ?_;intro nd)
  go_ret
  exact⟨rE,(hX HB.out)⟩
 rw[if_pos rfl] at H
 replace H:=bE H;obtain⟨t104,A5,H⟩:=H
 go_wp2_with ((with_reducible refine gate_callee (f:=43) rfl ?_);refine gD 43 11 Tryz.func43 (Xb.calls _ _ _ _ _ A3.out) ?_;intro nd;refine Stop.out ?_)
 refine⟨?_⟩
 cases t104
 case false =>
  rw[if_neg nft] at H
  obtain rfl:=sI H
  go_wp2_with (go_at_call 138;(with_reducible refine(XT.calls _ _ _ _ _ _ A5.out).mono ?_);rintro e wz3 ⟨rfl,hb⟩;replace BKz1:=aB BKz1 hb;replace BKz2:=aB BKz2 hb;replace HB:=aS HB hb;clear hb)
  go_ret
  exact⟨rE,(hX HB.out)⟩
 rw[if_pos rfl] at H
 replace H:=bE H;obtain⟨t105,A7,H⟩:=H
 go_wp2_with (go_at_call 138;(with_reducible refine(XT.calls _ _ _ _ _ _ A5.out).mono ?_);rintro e wz3 ⟨rfl,hb⟩;replace BKz1:=aB BKz1 hb;replace BKz2:=aB BKz2 hb;replace HB:=aS HB hb;clear hb;have hczz18:=cZ9 BKz2.out;have hczz27:=cZ8 BKz1.out;refine Stop.out ?_)
 refine⟨?_⟩
 cases t105
 case false =>
  rw[if_neg nft] at H
  obtain rfl:=sI H
  go_wp2_with (go_at_call 43;(with_reducible refine(Xb.calls _ _ _ _ _ A7.out).mono ?_);rintro e w' ⟨rfl,⟨nd,rfl⟩⟩)
  go_ret
  exact⟨rE,(hX HB.out)⟩
 rw[if_pos rfl] at H
 go_wp2_with (go_at_call 43;(with_reducible refine(Xb.calls _ _ _ _ _ A7.out).mono ?_);rintro e w' ⟨rfl,⟨nd,rfl⟩⟩;refine Stop.out ?_)
 refine⟨?_⟩
 revert H;refine eP ?_ ?_<;>intro c9b0 c9b1 H
 ·revert H;refine eP ?_ ?_<;>intro c10b0 c10b1 H
  ·obtain rfl:=sI H
   exact fS
  replace H:=bE H;obtain⟨t106,A19,H⟩:=H
  obtain rfl:=sI H
  go_wp2_with (go_at_call 43;(with_reducible refine(Xb.calls _ _ _ _ _ A19.out).mono ?_);rintro e w' ⟨rfl,⟨nd,rfl⟩⟩)
  go_ret
  exact⟨rE,(hX HB.out)⟩
 replace H:=bE H;obtain⟨t107,A28,H⟩:=H
 cases t107
 case false =>
  rw[if_neg nft] at H
  obtain rfl:=sI H
  go_wp2_with (go_at_call 43;(with_reducible refine(Xb.calls _ _ _ _ _ A28.out).mono ?_);rintro e w' ⟨rfl,⟨nd,rfl⟩⟩)
  go_ret
  exact⟨rE,(hX HB.out)⟩
 rw[if_pos rfl] at H
 go_wp2_with (go_at_call 43;(with_reducible refine(Xb.calls _ _ _ _ _ A28.out).mono ?_);rintro e w' ⟨rfl,⟨nd,rfl⟩⟩;refine Stop.out ?_)
 refine⟨?_⟩
 revert H;refine eP ?_ ?_<;>intro c30b0 c30b1 H
 ·obtain rfl:=sI H
  exact fS
 replace H:=bE H;obtain⟨t108,A39,H⟩:=H
 obtain rfl:=sI H
 go_wp2_with (go_at_call 43;(with_reducible refine(Xb.calls _ _ _ _ _ A39.out).mono ?_);rintro e w' ⟨rfl,⟨nd,rfl⟩⟩)
 go_ret
 exact⟨rE,(hX HB.out)⟩
mutual
def Xc.j0:Nat→Int→Bool→List (S69)→Int→Bool→List (S172)→List (S174)→Option (Bool)
 | 0,_,_,_,_,_,_,_=>none
 | k+1,x1,x60,x102000,x102001,x102002,x102003,x102004=>if x60=true then (some false) else (Xc.l0 k x1 0 x102000 x102001 x102002 x102003 x102004)
def Xc.l0:Nat→Int→Int→List (S69)→Int→Bool→List (S172)→List (S174)→Option (Bool)
 | 0,_,_,_,_,_,_,_=>none
 | k+1,x1,x5,x102000,x102001,x102002,x102003,x102004=>if x5<(x102000.length:Int) then (if 0≤x5 then ((XT.f k ((rd_T69 x102000 x5).f0) ((rd_T69 x102000 x5).f1) ((rd_T69 x102000 x5).f2)).bind fun t104=>(if t104=true then (Xc.l0 k x1 (wrap64 (x5+1)) x102000 x102001 x102002 x102003 x102004) else (some false))) else (none)) else (Xc.l1 k x1 0 x102000 x102001 x102002 x102003 x102004)
def Xc.l1:Nat→Int→Int→List (S69)→Int→Bool→List (S172)→List (S174)→Option (Bool)
 | 0,_,_,_,_,_,_,_=>none
 | k+1,x1,x6,x102000,x102001,x102002,x102003,x102004=>if x6<(x102003.length:Int) then (if 0≤x6 then ((Xb.f ((rd_T172 x102003 x6).f0) 0 19).bind fun t106=>(if t106=true then ((Xb.f ((rd_T172 x102003 x6).f1) 0 1000).bind fun t108=>(if t108=true then (Xc.l1 k x1 (wrap64 (x6+1)) x102000 x102001 x102002 x102003 x102004) else (some false))) else (some false))) else (none)) else (Xc.l2 k x1 0 x102000 x102001 x102002 x102003 x102004)
def Xc.l2:Nat→Int→Int→List (S69)→Int→Bool→List (S172)→List (S174)→Option (Bool)
 | 0,_,_,_,_,_,_,_=>none
 | k+1,x1,x7,x102000,x102001,x102002,x102003,x102004=>if x7<(x102004.length:Int) then (if 0≤x7 then (if ((rd_T174 x102004 x7).f0)<0 then (some false) else (if ((rd_T174 x102004 x7).f0) ≥ x1 then (some false) else ((Xb.f ((rd_T174 x102004 x7).f1) 1 1000000).bind fun t111=>(if t111=true then ((Xb.f ((rd_T174 x102004 x7).f2) 0 20).bind fun t112=>(if t112=true then ((Xb.f ((rd_T174 x102004 x7).f3) 0 20).bind fun t113=>(if t113=true then (Xc.l2 k x1 (wrap64 (x7+1)) x102000 x102001 x102002 x102003 x102004) else (some false))) else (some false))) else (some false))))) else (none)) else (some true)
end
def Xc.f (k:Nat) (l0_0:List (S69)) (a0_1:Int) (a0_2:Bool) (l0_3:List (S172)) (l0_4:List (S174)) (a1:Int):Option (Bool):=if (l0_0.length:Int) > 8 then (Xc.j0 k a1 true l0_0 a0_1 a0_2 l0_3 l0_4) else ((Xb.f a0_1 0 (l0_0.length:Int)).bind fun t102=>(if t102=true then (if a0_2=true then (if a0_1 ≥ (l0_0.length:Int) then (Xc.j0 k a1 true l0_0 a0_1 a0_2 l0_3 l0_4) else (if (l0_3.length:Int) > 12 then (Xc.j0 k a1 true l0_0 a0_1 a0_2 l0_3 l0_4) else (Xc.j0 k a1 (decide ((l0_4.length:Int) > 2)) l0_0 a0_1 a0_2 l0_3 l0_4))) else (if (wrap64 ((l0_3.length:Int)+(l0_4.length:Int))) > 0 then (Xc.j0 k a1 true l0_0 a0_1 a0_2 l0_3 l0_4) else (if (l0_3.length:Int) > 12 then (Xc.j0 k a1 true l0_0 a0_1 a0_2 l0_3 l0_4) else (Xc.j0 k a1 (decide ((l0_4.length:Int) > 2)) l0_0 a0_1 a0_2 l0_3 l0_4)))) else (Xc.j0 k a1 true l0_0 a0_1 a0_2 l0_3 l0_4)))
theorem Xc.calls (k:Nat) (A0_0:Option Addr) (c0_0:Nat) (l0_0:List (S69)) (a0_1:Int) (a0_2:Bool) (A0_3:Option Addr) (c0_3:Nat) (l0_3:List (S172)) (A0_4:Option Addr) (c0_4:Nat) (l0_4:List (S174)) (a1:Int) (r:Bool) (w:World) (h0_0:Rw k69 w A0_0 c0_0 l0_0) (h0_3:Rw k172 w A0_3 c0_3 l0_3) (h0_4:Rw k174 w A0_4 c0_4 l0_4) (H:Xc.f k l0_0 a0_1 a0_2 l0_3 l0_4 a1=some r) :
  Calls Tryz.prog 95 #[.agg #[.slice A0_0 l0_0.length c0_0,.int .i64 a0_1,.bool a0_2,.slice A0_3 l0_3.length c0_3,.slice A0_4 l0_4.length c0_4],.int .i64 a1] w fun e w'=>e = .returned (.bool r)∧Below w.heap.size w w':=by
 have hu97:=Tryz.underlying97
 have hu69:=Tryz.underlying69
 have hu174:=Tryz.underlying174
 obtain⟨HR0_0,HC0_0⟩:=h0_0
 obtain⟨HR0_3,HC0_3⟩:=h0_3
 obtain⟨HR0_4,HC0_4⟩:=h0_4
 have HB:=aM (Below.refl w.heap.size w)
 unfold Xc.f at H
 have HC3:=aM H
 clear H
 go_enter Tryz.func95,Tryz.ntmps95
 go_upto_region 1 with((with_reducible refine gate_dst (N:=2) rfl ?_);(try (refine gate_guard (by rfl) ?_;dsimp only));refine boxF 2 #[.slice A0_0 l0_0.length c0_0,.int .i64 a0_1,.bool a0_2,.slice A0_3 l0_3.length c0_3,.slice A0_4 l0_4.length c0_4] 97 ?_;intro gbz1 hg wz1 hbox hb;have BKz1:=aM (hbox);have GWz1:=aG hg HB;replace HB:=aS HB hb;clear hb hbox hg)
 (try simp only[Act.put,List.setIfInBounds_toArray,List.set_cons_zero,List.set_cons_succ])
 go_cut [60] (fun vz1 wc=>∃ (kq:Nat) (x60_2:Bool),vz1 = .bool x60_2∧Aside0 (Xc.j0 kq a1 x60_2 l0_0 a0_1 a0_2 l0_3 l0_4=some r)∧Aside0 (kq≤k)∧Aside0 (wc.heap[gbz1]? = some (.cells #[(.slice A0_0 l0_0.length c0_0),.int .i64 a0_1,.bool a0_2,(.slice A0_3 l0_3.length c0_3),(.slice A0_4 l0_4.length c0_4)] 97 (0,0)))∧Aside0 (Below w.heap.size w wc))
 case first =>
  have H:=HC3.out
  clear HC3
  by_cases c5:(l0_0.length:Int) > 8
  ·rw[if_pos c5] at H
   have c5b0:=decide_eq_true c5
   have c5b1:decide (8<l0_0.length)=true:=decide_eq_true (by omega)
   clear c5
   (first | rw[c5b0] | (simp only[i64_w,i32_w];rw[c5b0]) | skip)
   have H':=aM H
   clear H
   have hczy1:=cZ5 BKz1.out
   go_wp2
   go_meet
   case rel=>exact⟨_,(true),rS,H',⟨by first | omega | exact Nat.le_refl _⟩,⟨(bX BKz1.out)⟩,⟨(hX HB.out)⟩⟩
  rw[if_neg c5] at H
  have c5b0:=decide_eq_false c5
  have c5b1:decide (8<l0_0.length)=false:=decide_eq_false (by omega)
  clear c5
  (first | rw[c5b0] | (simp only[i64_w,i32_w];rw[c5b0]) | skip)
  replace H:=bE H;obtain⟨t102,A7,H⟩:=H
  cases t102
  case false =>
   rw[if_neg nft] at H
   have H':=aM H
   clear H
   have hczy1:=cZ5 BKz1.out
   go_wp2_with (go_at_call 43;(with_reducible refine(Xb.calls _ _ _ _ _ A7.out).mono ?_);rintro e w' ⟨rfl,⟨nd,rfl⟩⟩)
   go_meet
   case rel=>exact⟨_,(true),rS,H',⟨by first | omega | exact Nat.le_refl _⟩,⟨(bX BKz1.out)⟩,⟨(hX HB.out)⟩⟩
  rw[if_pos rfl] at H
  have hczy1:=cZ5 BKz1.out
  go_wp2_with (go_at_call 43;(with_reducible refine(Xb.calls _ _ _ _ _ A7.out).mono ?_);rintro e w' ⟨rfl,⟨nd,rfl⟩⟩;refine Stop.out ?_)
  refine⟨?_⟩
  by_cases c9:a0_2=true
  ·subst c9
   rw[if_pos rfl] at H
   revert H;refine iP ?_ ?_<;>intro c10b0 H
   ·have H':=aM H
    clear H
    go_wp2
    go_meet
    case rel=>exact⟨_,(true),rS,H',⟨by first | omega | exact Nat.le_refl _⟩,⟨(bX BKz1.out)⟩,⟨(hX HB.out)⟩⟩
   by_cases c12:(l0_3.length:Int) > 12
   ·rw[if_pos c12] at H
    have c12b0:=decide_eq_true c12
    have c12b1:decide (12<l0_3.length)=true:=decide_eq_true (by omega)
    clear c12
    have H':=aM H
    clear H
    go_wp2
    go_meet
    case rel=>exact⟨_,(true),rS,H',⟨by first | omega | exact Nat.le_refl _⟩,⟨(bX BKz1.out)⟩,⟨(hX HB.out)⟩⟩
   rw[if_neg c12] at H
   have c12b0:=decide_eq_false c12
   have c12b1:decide (12<l0_3.length)=false:=decide_eq_false (by omega)
   clear c12
   have H':=aM H
   clear H
   go_wp2
   go_meet
   case rel=>exact⟨_,(decide ((l0_4.length:Int) > 2)),rS,H',⟨by first | omega | exact Nat.le_refl _⟩,⟨(bX BKz1.out)⟩,⟨(hX HB.out)⟩⟩
  replace c9:=Bool.eq_false_iff.mpr c9
  subst c9
  rw[if_neg nft] at H
  revert H;refine iP ?_ ?_<;>intro c15b0 H
  ·have H':=aM H
   clear H
   go_wp2
   go_meet
   case rel=>exact⟨_,(true),rS,H',⟨by first | omega | exact Nat.le_refl _⟩,⟨(bX BKz1.out)⟩,⟨(hX HB.out)⟩⟩
  by_cases c17:(l0_3.length:Int) > 12
  ·rw[if_pos c17] at H
   have c17b0:=decide_eq_true c17
   have c17b1:decide (12<l0_3.length)=true:=decide_eq_true (by omega)
   clear c17
   have H':=aM H
   clear H
   go_wp2
   go_meet
   case rel=>exact⟨_,(true),rS,H',⟨by first | omega | exact Nat.le_refl _⟩,⟨(bX BKz1.out)⟩,⟨(hX HB.out)⟩⟩
  rw[if_neg c17] at H
  have c17b0:=decide_eq_false c17
  have c17b1:decide (12<l0_3.length)=false:=decide_eq_false (by omega)
  clear c17
  have H':=aM H
  clear H
  go_wp2
  go_meet
  case rel=>exact⟨_,(decide ((l0_4.length:Int) > 2)),rS,H',⟨by first | omega | exact Nat.le_refl _⟩,⟨(bX BKz1.out)⟩,⟨(hX HB.out)⟩⟩
 case rest =>
  clear HC3
  obtain⟨kq,x60_2,rfl,HA,HJy1,BKz1,HB⟩:=hcut
  cases kq with
  | zero=>exact absurd HA.out (by simp[Xc.j0])
  | succ kj2 =>
   have H:=HA.out
   clear HA
   simp only[Xc.j0] at H
   cases x60_2
   case true =>
    rw[if_pos rfl] at H
    exact fR
   rw[if_neg nft] at H
   have H':=aM H
   clear H
   go_wp2
   go_loopg [5] kj2 (fun kq v5 w'=>∃ (x5_2:Int),v5 = .int .i64 x5_2∧Aside0 (Xc.l0 kq a1 x5_2 l0_0 a0_1 a0_2 l0_3 l0_4=some r)∧Aside0 (kq≤kj2)∧Aside0 (w'.heap[gbz1]? = some (.cells #[(.slice A0_0 l0_0.length c0_0),.int .i64 a0_1,.bool a0_2,(.slice A0_3 l0_3.length c0_3),(.slice A0_4 l0_4.length c0_4)] 97 (0,0)))∧Aside0 (Below w.heap.size w w'))
   case atStart=>exact⟨(0),rS,H',⟨Nat.le_refl _⟩,⟨(bX BKz1.out)⟩,⟨(hX HB.out)⟩⟩
   case round =>
    clear H'
    obtain⟨x5_2,rfl,HA,HKw1,BKz1,HB⟩:=hrel
    cases gk with
    | zero=>exact absurd HA.out (by simp[Xc.l0])
    | succ k2 =>
     have H:=HA.out
     clear HA
     simp only[Xc.l0] at H
     revert H;refine iP ?_ ?_<;>intro c22b0 H
     ·replace H:=ifP H;obtain⟨c23,H⟩:=H
      have c23b0:=decide_eq_true c23
      clear c23
      replace H:=bE H;obtain⟨t104,A24,H⟩:=H
      cases t104
      case false =>
       rw[if_neg nft] at H
       obtain rfl:=sI H
       have hczv1:=cZ5 BKz1.out
       obtain⟨adv1,ev1,pv1,qv1,hxv1⟩:=at_T69c HR0_0 HB x5_2
       cases ev1
       go_wp2_with (refine gB 138 73 Tryz.func138 (XT.calls _ _ _ _ _ _ A24.out) ?_;intro wv1 hb;replace BKz1:=aB BKz1 hb;replace HB:=aS HB hb;clear hb)
       go_ret
       exact⟨rE,(hX HB.out)⟩
      rw[if_pos rfl] at H
      have H':=aM H
      clear H
      have hczv1:=cZ5 BKz1.out
      obtain⟨adv1,ev1,pv1,qv1,hxv1⟩:=at_T69c HR0_0 HB x5_2
      cases ev1
      go_wp2_with (refine gB 138 73 Tryz.func138 (XT.calls _ _ _ _ _ _ A24.out) ?_;intro wv1 hb;replace BKz1:=aB BKz1 hb;replace HB:=aS HB hb;clear hb)
      go_roundg k2
      case measure=>have:=HJy1.out;have:=HKw1.out;omega
      case rel=>exact⟨(wrap64 (x5_2+1)),rS,H',⟨by have:=HJy1.out;have:=HKw1.out;omega⟩,⟨(bX BKz1.out)⟩,⟨(hX HB.out)⟩⟩
     have H':=aM H
     clear H
     have hczv1:=cZ5 BKz1.out
     go_wp2
     go_loopg [6] k2 (fun kq v6 w'=>∃ (x6_3:Int),v6 = .int .i64 x6_3∧Aside0 (Xc.l1 kq a1 x6_3 l0_0 a0_1 a0_2 l0_3 l0_4=some r)∧Aside0 (kq≤k2)∧Aside0 (w'.heap[gbz1]? = some (.cells #[(.slice A0_0 l0_0.length c0_0),.int .i64 a0_1,.bool a0_2,(.slice A0_3 l0_3.length c0_3),(.slice A0_4 l0_4.length c0_4)] 97 (0,0)))∧Aside0 (Below w.heap.size w w'))
     case atStart=>exact⟨(0),rS,H',⟨Nat.le_refl _⟩,⟨(bX BKz1.out)⟩,⟨(hX HB.out)⟩⟩
     case round =>
      clear H'
      try clear c22b0
      try clear hczv1
      obtain⟨x6_3,rfl,HA,HKu1,BKz1,HB⟩:=hrel
      cases gk with
      | zero=>exact absurd HA.out (by simp[Xc.l1])
      | succ k3 =>
       have H:=HA.out
       clear HA
       simp only[Xc.l1] at H
       revert H;refine iP ?_ ?_<;>intro c31b0 H
       ·replace H:=ifP H;obtain⟨c32,H⟩:=H
        have c32b0:=decide_eq_true c32
        clear c32
        replace H:=bE H;obtain⟨t106,A33,H⟩:=H
        cases t106
        case false =>
         rw[if_neg nft] at H
         obtain rfl:=sI H
         have hczt1:=cZ5 BKz1.out
         obtain⟨adt1,et1,pt1,qt1,hxt1⟩:=at_T172c HR0_3 HB x6_3
         cases et1
         go_wp2_with (refine gD 43 88 Tryz.func43 (Xb.calls _ _ _ _ _ A33.out) ?_;intro nd)
         go_ret
         exact⟨rE,(hX HB.out)⟩
        rw[if_pos rfl] at H
        replace H:=bE H;obtain⟨t108,A35,H⟩:=H
        have hczt1:=cZ5 BKz1.out
        obtain⟨adt1,et1,pt1,qt1,hxt1⟩:=at_T172c HR0_3 HB x6_3
        cases et1
        go_wp2_with (refine gD 43 88 Tryz.func43 (Xb.calls _ _ _ _ _ A33.out) ?_;intro nd;have pt2:0≤(x6_3:Int):=odA;have qt2:x6_3<(l0_3.length:Int):=odA;obtain⟨adt2,et2,hxt3,hxt4⟩:=at_T172 HR0_3.out x6_3 pt2 qt2;obtain rfl:adt1=adt2:=(by injection et2);replace hxt3:=bc HB.out hxt3;replace hxt4:=bc HB.out hxt4;replace pt2:=eq_true pt2;replace qt2:=eq_true qt2;refine Stop.out ?_)
        refine⟨?_⟩
        cases t108
        case false =>
         rw[if_neg nft] at H
         obtain rfl:=sI H
         go_wp2_with (go_at_call 43;(with_reducible refine(Xb.calls _ _ _ _ _ A35.out).mono ?_);rintro e w' ⟨rfl,⟨nd,rfl⟩⟩)
         go_ret
         exact⟨rE,(hX HB.out)⟩
        rw[if_pos rfl] at H
        have H':=aM H
        clear H
        go_wp2_with (go_at_call 43;(with_reducible refine(Xb.calls _ _ _ _ _ A35.out).mono ?_);rintro e w' ⟨rfl,⟨nd,rfl⟩⟩)
        go_roundg k3
        case measure=>have:=HJy1.out;have:=HKw1.out;have:=HKu1.out;omega
        case rel=>exact⟨(wrap64 (x6_3+1)),rS,H',⟨by have:=HJy1.out;have:=HKw1.out;have:=HKu1.out;omega⟩,⟨(bX BKz1.out)⟩,⟨(hX HB.out)⟩⟩
       have H':=aM H
       clear H
       have hczt1:=cZ5 BKz1.out
       go_wp2
       go_loopg [7] k3 (fun kq v7 w'=>∃ (x7_4:Int),v7 = .int .i64 x7_4∧Aside0 (Xc.l2 kq a1 x7_4 l0_0 a0_1 a0_2 l0_3 l0_4=some r)∧Aside0 (kq≤k3)∧Aside0 (w'.heap[gbz1]? = some (.cells #[(.slice A0_0 l0_0.length c0_0),.int .i64 a0_1,.bool a0_2,(.slice A0_3 l0_3.length c0_3),(.slice A0_4 l0_4.length c0_4)] 97 (0,0)))∧Aside0 (Below w.heap.size w w'))
       case atStart=>exact⟨(0),rS,H',⟨Nat.le_refl _⟩,⟨(bX BKz1.out)⟩,⟨(hX HB.out)⟩⟩
       case round =>
        clear H'
        try clear c22b0
        try clear c31b0
        try clear hczv1
        try clear hczt1
        obtain⟨x7_4,rfl,HA,HKs1,BKz1,HB⟩:=hrel
        cases gk with
        | zero=>exact absurd HA.out (by simp[Xc.l2])
        | succ k4 =>
         have H:=HA.out
         clear HA
         simp only[Xc.l2] at H
         revert H;refine iN ?_ ?_<;>intro c41b0 H
         ·obtain rfl:=sI H
          have hczr1:=cZ5 BKz1.out
          exact fS
         replace H:=ifQ H;obtain⟨c42b0,H⟩:=H
         have hczr1:=cZ5 BKz1.out
         obtain⟨adr1,er1,pr1,qr1,hxr1⟩:=at_T174c HR0_4 HB x7_4
         cases er1
         go_wp2_with ((with_reducible refine gate_dst (N:=8) rfl ?_);(try (refine gate_guard (by rfl) ?_;dsimp only));refine boxF 8 #[.int .i64 0,.int .i64 0,.int .i64 0,.int .i64 0] 174 ?_;intro gbr1 hg wr1 hbox hb;have BKr1:=aM (hbox);have GWr1:=aG hg HB;have NBr1:=aL hg BKz1;have NBr2:=aR hg BKz1;replace BKz1:=aB BKz1 hb;replace HB:=aS HB hb;clear hb hbox hg;have hnbr1:=nB NBr2 NBr1;have hczr6:=cZ4 BKr1.out;refine Stop.out ?_)
         refine⟨?_⟩
         revert H;refine iP ?_ ?_<;>intro c43b0 H
         ·obtain rfl:=sI H
          exact fS
         revert H;refine iP ?_ ?_<;>intro c48b0 H
         ·obtain rfl:=sI H
          exact fS
         replace H:=bE H;obtain⟨t111,A53,H⟩:=H
         cases t111
         case false =>
          rw[if_neg nft] at H
          obtain rfl:=sI H
          go_wp2_with (go_at_call 43;(with_reducible refine(Xb.calls _ _ _ _ _ A53.out).mono ?_);rintro e w' ⟨rfl,⟨nd,rfl⟩⟩)
          go_ret
          exact⟨rE,(hX HB.out)⟩
         rw[if_pos rfl] at H
         replace H:=bE H;obtain⟨t112,A55,H⟩:=H
         go_wp2_with (go_at_call 43;(with_reducible refine(Xb.calls _ _ _ _ _ A53.out).mono ?_);rintro e w' ⟨rfl,⟨nd,rfl⟩⟩;refine Stop.out ?_)
         refine⟨?_⟩
         cases t112
         case false =>
          rw[if_neg nft] at H
          obtain rfl:=sI H
          go_wp2_with (go_at_call 43;(with_reducible refine(Xb.calls _ _ _ _ _ A55.out).mono ?_);rintro e w' ⟨rfl,⟨nd,rfl⟩⟩)
          go_ret
          exact⟨rE,(hX HB.out)⟩
         rw[if_pos rfl] at H
         replace H:=bE H;obtain⟨t113,A57,H⟩:=H
         go_wp2_with (go_at_call 43;(with_reducible refine(Xb.calls _ _ _ _ _ A55.out).mono ?_);rintro e w' ⟨rfl,⟨nd,rfl⟩⟩;refine Stop.out ?_)
         refine⟨?_⟩
         cases t113
         case false =>
          rw[if_neg nft] at H
          obtain rfl:=sI H
          go_wp2_with (go_at_call 43;(with_reducible refine(Xb.calls _ _ _ _ _ A57.out).mono ?_);rintro e w' ⟨rfl,⟨nd,rfl⟩⟩)
          go_ret
          exact⟨rE,(hX HB.out)⟩
         rw[if_pos rfl] at H
         have H':=aM H
         clear H
         go_wp2_with (go_at_call 43;(with_reducible refine(Xb.calls _ _ _ _ _ A57.out).mono ?_);rintro e w' ⟨rfl,⟨nd,rfl⟩⟩)
         go_roundg k4
         case measure=>have:=HJy1.out;have:=HKw1.out;have:=HKu1.out;have:=HKs1.out;omega
         case rel=>exact⟨(wrap64 (x7_4+1)),rS,H',⟨by have:=HJy1.out;have:=HKw1.out;have:=HKu1.out;have:=HKs1.out;omega⟩,⟨(bF BKz1.out)⟩,⟨(hX HB.out)⟩⟩
end Go.Proofs.YtmljebgideecjaaGreat.P2
