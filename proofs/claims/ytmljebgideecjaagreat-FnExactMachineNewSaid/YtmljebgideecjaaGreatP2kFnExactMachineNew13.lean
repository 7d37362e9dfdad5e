/- A part of the proof of the law FnExactMachineNew: texts of this seat, merged (words, printed functions of the program, plain lemmas). Conditions: none of its own. -/
import Derived.Test.YtmljebgideecjaaGreatP2kFnExactMachineNew9
set_option linter.unusedSimpArgs false
set_option linter.unusedVariables false
set_option maxHeartbeats 8000000
set_option maxRecDepth 100000
namespace Go.Proofs.YtmljebgideecjaaGreat.P2
open Go.Proofs.YtmljebgideecjaaGreatZ Go.RowKit Go.Proofs.YtmljebgideecjaaGreatW.PrintWords Go.Proofs.YtmljebgideecjaaGreatW.PrintLast Go.Proofs.YtmljebgideecjaaGreatW.PrintMore
attribute [local go_sem] max2_int min2_int max_two min_two max_three min_three max_four min_four   -- for this text's walks alone

def Xar.f (k:Nat) (l0_0:List Int) (a0_1:Int) (l1_0:List Int) (a1_1:Int):Option (Bool):=(XN.f k l0_0 l1_0).bind fun t103=>(if t103=true then (if a0_1=a1_1 then (some true) else (some false)) else (some false))
theorem Xar.calls (k:Nat) (A0_0:Option Addr) (c0_0:Nat) (l0_0:List Int) (a0_1:Int) (A1_0:Option Addr) (c1_0:Nat) (l1_0:List Int) (a1_1:Int) (r:Bool) (w:World) (h0_0:Rw (Kd.int .i64) w A0_0 c0_0 l0_0) (h1_0:Rw (Kd.int .i64) w A1_0 c1_0 l1_0) (H:Xar.f k l0_0 a0_1 l1_0 a1_1=some r) :
  Calls Tryz.prog 23 #[.agg #[.slice A0_0 l0_0.length c0_0,.int .i64 a0_1],.agg #[.slice A1_0 l1_0.length c1_0,.int .i64 a1_1]] w fun e w'=>e = .returned (.bool r)∧Below w.heap.size w w':=by
 have hu41:=Tryz.underlying41
 obtain⟨HR0_0,HC0_0⟩:=h0_0
 obtain⟨HR1_0,HC1_0⟩:=h1_0
 have HB:=aM (Below.refl w.heap.size w)
 unfold Xar.f at H
 replace H:=bE H;obtain⟨t103,A3,H⟩:=H
 go_enter Tryz.func23,Tryz.ntmps23
 go_wp2_with (first | (refine boxE 2 #[.slice A0_0 l0_0.length c0_0,.int .i64 a0_1] 41 ?_;intro gbz1 hg wz1 hbox hb;have BKz1:=aM (hbox);have GWz1:=aG hg HB;replace HB:=aS HB hb;clear hb hbox hg) | (refine boxE 3 #[.slice A1_0 l1_0.length c1_0,.int .i64 a1_1] 41 ?_;intro gbz2 hg wz2 hbox hb;have BKz2:=aM (hbox);have GWz2:=aG hg HB;have NBz1:=aL hg BKz1;have NBz2:=aR hg BKz1;replace BKz1:=aB BKz1 hb;replace HB:=aS HB hb;clear hb hbox hg;have hnbz1:=nB NBz1 NBz2;have hczz1:=cZ2 BKz1.out;have hczz3:=cZ2 BKz2.out;refine Stop.out ?_))
 refine⟨?_⟩
 cases t103
 case false =>
  rw[if_neg nft] at H
  obtain rfl:=sI H
  go_wp2_with (refine gD 53 9 Tryz.func53 (XN.calls _ _ _ _ _ _ _ _ _ (rW HR0_0 HB HC0_0) (rW HR1_0 HB HC1_0) A3.out) ?_;intro nd)
  go_ret
  exact⟨rE,(hX HB.out)⟩
 rw[if_pos rfl] at H
 go_wp2_with (refine gD 53 9 Tryz.func53 (XN.calls _ _ _ _ _ _ _ _ _ (rW HR0_0 HB HC0_0) (rW HR1_0 HB HC1_0) A3.out) ?_;intro nd;refine Stop.out ?_)
 refine⟨?_⟩
 revert H;refine eN ?_ ?_<;>intro c5b0 c5b1 H
 ·obtain rfl:=sI H
  exact fS
 exact fR
def Xt.l0:Nat→List (S140)→List (S140)→Int→Option (Bool)
 | 0,_,_,_=>none
 | k+1,x0,x1,x5=>if x5<(x0.length:Int) then (if 0≤x5 then (if x5<(x1.length:Int) then ((Xa2.f ((rd_T140 x0 x5).f0) ((rd_T140 x0 x5).f1) ((rd_T140 x0 x5).f2) ((rd_T140 x1 x5).f0) ((rd_T140 x1 x5).f1) ((rd_T140 x1 x5).f2)).bind fun t103=>(if t103=true then (Xt.l0 k x0 x1 (wrap64 (x5+1))) else (some false))) else (none)) else (none)) else (some true)
def Xt.f (k:Nat) (l0:List (S140)) (l1:List (S140)):Option (Bool):=if (l0.length:Int)=(l1.length:Int) then (Xt.l0 k l0 l1 0) else (some false)
def Xt.T6:Bool × List (List Nat × List Nat):=(true,[([],[]),([],[]),([0,1],[0,1]),([2],[2]),([],[]),([],[]),([4,5],[4,5]),([6],[6]),([3,7],[3,7]),([8],[8])])
def Xt.B6:List Nat:=[0,0,3,7,0,0,48,112,255,511]
theorem Xt.tab6:rtab .any (opsOf Tryz.f109 6)=Xt.T6:=by kernel_rfl
theorem Xt.bits6:waitsOk Xt.T6.2 Xt.B6=true:=by kernel_rfl
theorem Xt.calls (k:Nat) (A0:Option Addr) (c0:Nat) (l0:List (S140)) (A1:Option Addr) (c1:Nat) (l1:List (S140)) (r:Bool) (w:World) (h0:Rw k140 w A0 c0 l0) (h1:Rw k140 w A1 c1 l1) (H:Xt.f k l0 l1=some r) :
  Calls Tryz.prog 109 #[.slice A0 l0.length c0,.slice A1 l1.length c1] w fun e w'=>e = .returned (.bool r)∧Below w.heap.size w w':=by
 have hu140:=Tryz.underlying140
 obtain⟨HR0,HC0⟩:=h0
 obtain⟨HR1,HC1⟩:=h1
 have HB:=aM (Below.refl w.heap.size w)
 unfold Xt.f at H
 go_enter Tryz.func109,Tryz.ntmps109
 by_cases c3:(l0.length:Int)=(l1.length:Int)
 case neg =>
  rw[if_neg c3] at H
  obtain⟨c3b0,c3b1⟩:=eqF c3
  have c3b2:(l0.length == l1.length)=false:=by first | simpa using c3 | (simp at c3 ⊢;omega)
  exact fR
 rw[if_pos c3] at H
 obtain⟨c3b0,c3b1⟩:=eqT c3
 have c3b2:(l0.length == l1.length)=true:=by first | simpa using c3 | (simp at c3 ⊢;omega)
 clear c3
 have H':=aM H
 clear H
 go_wp2
 go_loopg [5] k (fun kq v5 w'=>∃ (x5_1:Int),v5 = .int .i64 x5_1∧Aside0 (Xt.l0 kq l0 l1 x5_1=some r)∧Aside0 (kq≤k)∧Aside0 (Below w.heap.size w w'))
 case atStart=>exact⟨(0),rS,H',⟨Nat.le_refl _⟩,⟨(hX HB.out)⟩⟩
 case round =>
  clear H'
  try clear c3
  try clear c3b0
  try clear c3b1
  try clear c3b2
  obtain⟨x5_1,rfl,HA,HKy1,HB⟩:=hrel
  cases gk with
  | zero=>exact absurd HA.out (by simp[Xt.l0])
  | succ k1 =>
   have H:=HA.out
   clear HA
   simp only[Xt.l0] at H
   revert H;refine iN ?_ ?_<;>intro c4b0 H
   ·obtain rfl:=sI H
    exact fS
   replace H:=ifQ H;obtain⟨c5b0,H⟩:=H
   replace H:=ifQ H;obtain⟨c6b0,H⟩:=H
   replace H:=bE H;obtain⟨t103,A7,H⟩:=H
   try go_wp2
   obtain⟨adx1,ex1,px1,qx1,hxx1⟩:=at_T140c HR0 HB x5_1
   cases ex1
   obtain⟨adx2,ex2,px2,qx2,hxx4⟩:=at_T140c HR1 HB x5_1
   cases ex2
   refine sR0 10 Xt.tab6 Xt.bits6 (fun HT_ HW_ hHeld => ?_)
   refine zA 0 ?_
   refine zA 1 ?_
   refine zA 2 ?_
   refine zA 4 ?_
   refine zA 5 ?_
   refine zA 6 ?_
   refine tA 3 ?_
   refine tA 7 ?_
   cases t103
   case false =>
    rw[if_neg nft] at H
    obtain rfl:=sI H
    refine eB 8 Tryz.func186 (Xa2.calls _ _ _ _ _ _ _ _ A7.out) (fun wx2 hb hHeld => ?_)
    replace HB:=aS HB hb
    (try clear hb)
    refine zA 9 ?_
    refine dA ?_
    try go_wp2
    go_ret
    exact⟨rE,(hX HB.out)⟩
   rw[if_pos rfl] at H
   have H':=aM H
   clear H
   refine eB 8 Tryz.func186 (Xa2.calls _ _ _ _ _ _ _ _ A7.out) (fun wx2 hb hHeld => ?_)
   replace HB:=aS HB hb
   (try clear hb)
   refine zA 9 ?_
   refine dA ?_
   try go_wp2
   go_roundg k1
   case measure=>have:=HKy1.out;omega
   case rel=>exact⟨(wrap64 (x5_1+1)),rS,H',⟨by have:=HKy1.out;omega⟩,⟨(hX HB.out)⟩⟩
def XaE.f (k:Nat) (a0_0:Int) (l0_1:List Int) (a1_0:Int) (l1_1:List Int):Option (Bool):=if a0_0=a1_0 then ((XN.f k l0_1 l1_1).bind fun t103=>(if t103=true then (some true) else (some false))) else (some false)
theorem XaE.calls (k:Nat) (a0_0:Int) (A0_1:Option Addr) (c0_1:Nat) (l0_1:List Int) (a1_0:Int) (A1_1:Option Addr) (c1_1:Nat) (l1_1:List Int) (r:Bool) (w:World) (h0_1:Rw (Kd.int .i64) w A0_1 c0_1 l0_1) (h1_1:Rw (Kd.int .i64) w A1_1 c1_1 l1_1) (H:XaE.f k a0_0 l0_1 a1_0 l1_1=some r) :
  Calls Tryz.prog 190 #[.agg #[.int .i64 a0_0,.slice A0_1 l0_1.length c0_1],.agg #[.int .i64 a1_0,.slice A1_1 l1_1.length c1_1]] w fun e w'=>e = .returned (.bool r)∧Below w.heap.size w w':=by
 have hu71:=Tryz.underlying71
 obtain⟨HR0_1,HC0_1⟩:=h0_1
 obtain⟨HR1_1,HC1_1⟩:=h1_1
 have HB:=aM (Below.refl w.heap.size w)
 unfold XaE.f at H
 go_enter Tryz.func190,Tryz.ntmps190
 go_wp2_with (first | (refine boxE 2 #[.int .i64 a0_0,.slice A0_1 l0_1.length c0_1] 71 ?_;intro gbz1 hg wz1 hbox hb;have BKz1:=aM (hbox);have GWz1:=aG hg HB;replace HB:=aS HB hb;clear hb hbox hg) | (refine boxE 3 #[.int .i64 a1_0,.slice A1_1 l1_1.length c1_1] 71 ?_;intro gbz2 hg wz2 hbox hb;have BKz2:=aM (hbox);have GWz2:=aG hg HB;have NBz1:=aL hg BKz1;have NBz2:=aR hg BKz1;replace BKz1:=aB BKz1 hb;replace HB:=aS HB hb;clear hb hbox hg;have hnbz1:=nB NBz1 NBz2;have hczz1:=cZ2 BKz1.out;have hczz3:=cZ2 BKz2.out;refine Stop.out ?_))
 refine⟨?_⟩
 revert H;refine eN ?_ ?_<;>intro c3b0 c3b1 H
 ·obtain rfl:=sI H
  exact fS
 replace H:=bE H;obtain⟨t103,A4,H⟩:=H
 cases t103
 case true =>
  rw[if_pos rfl] at H
  obtain rfl:=sI H
  go_wp2_with (refine gD 53 14 Tryz.func53 (XN.calls _ _ _ _ _ _ _ _ _ (rW HR0_1 HB HC0_1) (rW HR1_1 HB HC1_1) A4.out) ?_;intro nd)
  go_ret
  exact⟨rE,(hX HB.out)⟩
 rw[if_neg nft] at H
 obtain rfl:=sI H
 go_wp2_with (refine gD 53 14 Tryz.func53 (XN.calls _ _ _ _ _ _ _ _ _ (rW HR0_1 HB HC0_1) (rW HR1_1 HB HC1_1) A4.out) ?_;intro nd)
 go_ret
 exact⟨rE,(hX HB.out)⟩
def Xq.l0:Nat→List (S165)→List (S165)→Int→Option (Bool)
 | 0,_,_,_=>none
 | k+1,x0,x1,x5=>if x5<(x0.length:Int) then (if 0≤x5 then (if x5<(x1.length:Int) then ((XaU.f ((rd_T165 x0 x5).f0) ((rd_T165 x0 x5).f1) ((rd_T165 x0 x5).f2) ((rd_T165 x1 x5).f0) ((rd_T165 x1 x5).f1) ((rd_T165 x1 x5).f2)).bind fun t103=>(if t103=true then (Xq.l0 k x0 x1 (wrap64 (x5+1))) else (some false))) else (none)) else (none)) else (some true)
def Xq.f (k:Nat) (l0:List (S165)) (l1:List (S165)):Option (Bool):=if (l0.length:Int)=(l1.length:Int) then (Xq.l0 k l0 l1 0) else (some false)
def Xq.T6:Bool × List (List Nat × List Nat):=(true,[([],[]),([],[]),([0,1],[0,1]),([2],[2]),([],[]),([],[]),([4,5],[4,5]),([6],[6]),([3,7],[3,7]),([8],[8])])
def Xq.B6:List Nat:=[0,0,3,7,0,0,48,112,255,511]
theorem Xq.tab6:rtab .any (opsOf Tryz.f213 6)=Xq.T6:=by kernel_rfl
theorem Xq.bits6:waitsOk Xq.T6.2 Xq.B6=true:=by kernel_rfl
theorem Xq.calls (k:Nat) (A0:Option Addr) (c0:Nat) (l0:List (S165)) (A1:Option Addr) (c1:Nat) (l1:List (S165)) (r:Bool) (w:World) (h0:Rw k165 w A0 c0 l0) (h1:Rw k165 w A1 c1 l1) (H:Xq.f k l0 l1=some r) :
  Calls Tryz.prog 213 #[.slice A0 l0.length c0,.slice A1 l1.length c1] w fun e w'=>e = .returned (.bool r)∧Below w.heap.size w w':=by
 have hu165:=Tryz.underlying165
 obtain⟨HR0,HC0⟩:=h0
 obtain⟨HR1,HC1⟩:=h1
 have HB:=aM (Below.refl w.heap.size w)
 unfold Xq.f at H
 go_enter Tryz.func213,Tryz.ntmps213
 by_cases c3:(l0.length:Int)=(l1.length:Int)
 case neg =>
  rw[if_neg c3] at H
  obtain⟨c3b0,c3b1⟩:=eqF c3
  have c3b2:(l0.length == l1.length)=false:=by first | simpa using c3 | (simp at c3 ⊢;omega)
  exact fR
 rw[if_pos c3] at H
 obtain⟨c3b0,c3b1⟩:=eqT c3
 have c3b2:(l0.length == l1.length)=true:=by first | simpa using c3 | (simp at c3 ⊢;omega)
 clear c3
 have H':=aM H
 clear H
 go_wp2
 go_loopg [5] k (fun kq v5 w'=>∃ (x5_1:Int),v5 = .int .i64 x5_1∧Aside0 (Xq.l0 kq l0 l1 x5_1=some r)∧Aside0 (kq≤k)∧Aside0 (Below w.heap.size w w'))
 case atStart=>exact⟨(0),rS,H',⟨Nat.le_refl _⟩,⟨(hX HB.out)⟩⟩
 case round =>
  clear H'
  try clear c3
  try clear c3b0
  try clear c3b1
  try clear c3b2
  obtain⟨x5_1,rfl,HA,HKy1,HB⟩:=hrel
  cases gk with
  | zero=>exact absurd HA.out (by simp[Xq.l0])
  | succ k1 =>
   have H:=HA.out
   clear HA
   simp only[Xq.l0] at H
   revert H;refine iN ?_ ?_<;>intro c4b0 H
   ·obtain rfl:=sI H
    exact fS
   replace H:=ifQ H;obtain⟨c5b0,H⟩:=H
   replace H:=ifQ H;obtain⟨c6b0,H⟩:=H
   replace H:=bE H;obtain⟨t103,A7,H⟩:=H
   try go_wp2
   obtain⟨adx1,ex1,px1,qx1,hxx1⟩:=at_T165c HR0 HB x5_1
   cases ex1
   obtain⟨adx2,ex2,px2,qx2,hxx4⟩:=at_T165c HR1 HB x5_1
   cases ex2
   refine sR0 10 Xq.tab6 Xq.bits6 (fun HT_ HW_ hHeld => ?_)
   refine zA 0 ?_
   refine zA 1 ?_
   refine zA 2 ?_
   refine zA 4 ?_
   refine zA 5 ?_
   refine zA 6 ?_
   refine tA 3 ?_
   refine tA 7 ?_
   cases t103
   case false =>
    rw[if_neg nft] at H
    obtain rfl:=sI H
    refine eB 8 Tryz.func220 (XaU.calls _ _ _ _ _ _ _ _ A7.out) (fun wx2 hb hHeld => ?_)
    replace HB:=aS HB hb
    (try clear hb)
    refine zA 9 ?_
    refine dA ?_
    try go_wp2
    go_ret
    exact⟨rE,(hX HB.out)⟩
   rw[if_pos rfl] at H
   have H':=aM H
   clear H
   refine eB 8 Tryz.func220 (XaU.calls _ _ _ _ _ _ _ _ A7.out) (fun wx2 hb hHeld => ?_)
   replace HB:=aS HB hb
   (try clear hb)
   refine zA 9 ?_
   refine dA ?_
   try go_wp2
   go_roundg k1
   case measure=>have:=HKy1.out;omega
   case rel=>exact⟨(wrap64 (x5_1+1)),rS,H',⟨by have:=HKy1.out;omega⟩,⟨(hX HB.out)⟩⟩
def Xu.l0:Nat→List (S172)→List (S172)→Int→Option (Bool)
 | 0,_,_,_=>none
 | k+1,x0,x1,x5=>if x5<(x0.length:Int) then (if 0≤x5 then (if x5<(x1.length:Int) then ((Xa3.f ((rd_T172 x0 x5).f0) ((rd_T172 x0 x5).f1) ((rd_T172 x1 x5).f0) ((rd_T172 x1 x5).f1)).bind fun t103=>(if t103=true then (Xu.l0 k x0 x1 (wrap64 (x5+1))) else (some false))) else (none)) else (none)) else (some true)
def Xu.f (k:Nat) (l0:List (S172)) (l1:List (S172)):Option (Bool):=if (l0.length:Int)=(l1.length:Int) then (Xu.l0 k l0 l1 0) else (some false)
def Xu.T6:Bool × List (List Nat × List Nat):=(true,[([],[]),([],[]),([0,1],[0,1]),([2],[2]),([],[]),([],[]),([4,5],[4,5]),([6],[6]),([3,7],[3,7]),([8],[8])])
def Xu.B6:List Nat:=[0,0,3,7,0,0,48,112,255,511]
theorem Xu.tab6:rtab .any (opsOf Tryz.f188 6)=Xu.T6:=by kernel_rfl
theorem Xu.bits6:waitsOk Xu.T6.2 Xu.B6=true:=by kernel_rfl
theorem Xu.calls (k:Nat) (A0:Option Addr) (c0:Nat) (l0:List (S172)) (A1:Option Addr) (c1:Nat) (l1:List (S172)) (r:Bool) (w:World) (h0:Rw k172 w A0 c0 l0) (h1:Rw k172 w A1 c1 l1) (H:Xu.f k l0 l1=some r) :
  Calls Tryz.prog 188 #[.slice A0 l0.length c0,.slice A1 l1.length c1] w fun e w'=>e = .returned (.bool r)∧Below w.heap.size w w':=by
 have hu172:=Tryz.underlying172
 obtain⟨HR0,HC0⟩:=h0
 obtain⟨HR1,HC1⟩:=h1
 have HB:=aM (Below.refl w.heap.size w)
 unfold Xu.f at H
 go_enter Tryz.func188,Tryz.ntmps188
 by_cases c3:(l0.length:Int)=(l1.length:Int)
 case neg =>
  rw[if_neg c3] at H
  obtain⟨c3b0,c3b1⟩:=eqF c3
  have c3b2:(l0.length == l1.length)=false:=by first | simpa using c3 | (simp at c3 ⊢;omega)
  exact fR
 rw[if_pos c3] at H
 obtain⟨c3b0,c3b1⟩:=eqT c3
 have c3b2:(l0.length == l1.length)=true:=by first | simpa using c3 | (simp at c3 ⊢;omega)
 clear c3
 have H':=aM H
 clear H
 go_wp2
 go_loopg [5] k (fun kq v5 w'=>∃ (x5_1:Int),v5 = .int .i64 x5_1∧Aside0 (Xu.l0 kq l0 l1 x5_1=some r)∧Aside0 (kq≤k)∧Aside0 (Below w.heap.size w w'))
 case atStart=>exact⟨(0),rS,H',⟨Nat.le_refl _⟩,⟨(hX HB.out)⟩⟩
 case round =>
  clear H'
  try clear c3
  try clear c3b0
  try clear c3b1
  try clear c3b2
  obtain⟨x5_1,rfl,HA,HKy1,HB⟩:=hrel
  cases gk with
  | zero=>exact absurd HA.out (by simp[Xu.l0])
  | succ k1 =>
   have H:=HA.out
   clear HA
   simp only[Xu.l0] at H
   revert H;refine iN ?_ ?_<;>intro c4b0 H
   ·obtain rfl:=sI H
    exact fS
   replace H:=ifQ H;obtain⟨c5b0,H⟩:=H
   replace H:=ifQ H;obtain⟨c6b0,H⟩:=H
   replace H:=bE H;obtain⟨t103,A7,H⟩:=H
   try go_wp2
   obtain⟨adx1,ex1,px1,qx1,hxx1⟩:=at_T172c HR0 HB x5_1
   cases ex1
   obtain⟨adx2,ex2,px2,qx2,hxx3⟩:=at_T172c HR1 HB x5_1
   cases ex2
   refine sR0 10 Xu.tab6 Xu.bits6 (fun HT_ HW_ hHeld => ?_)
   refine zA 0 ?_
   refine zA 1 ?_
   refine zA 2 ?_
   refine zA 4 ?_
   refine zA 5 ?_
   refine zA 6 ?_
   refine tA 3 ?_
   refine tA 7 ?_
   cases t103
   case false =>
    rw[if_neg nft] at H
    obtain rfl:=sI H
    refine eB 8 Tryz.func214 (Xa3.calls _ _ _ _ _ _ A7.out) (fun wx2 hb hHeld => ?_)
    replace HB:=aS HB hb
    (try clear hb)
    refine zA 9 ?_
    refine dA ?_
    try go_wp2
    go_ret
    exact⟨rE,(hX HB.out)⟩
   rw[if_pos rfl] at H
   have H':=aM H
   clear H
   refine eB 8 Tryz.func214 (Xa3.calls _ _ _ _ _ _ A7.out) (fun wx2 hb hHeld => ?_)
   replace HB:=aS HB hb
   (try clear hb)
   refine zA 9 ?_
   refine dA ?_
   try go_wp2
   go_roundg k1
   case measure=>have:=HKy1.out;omega
   case rel=>exact⟨(wrap64 (x5_1+1)),rS,H',⟨by have:=HKy1.out;omega⟩,⟨(hX HB.out)⟩⟩
def Xv.l0:Nat→List (S174)→List (S174)→Int→Option (Bool)
 | 0,_,_,_=>none
 | k+1,x0,x1,x5=>if x5<(x0.length:Int) then (if 0≤x5 then (if x5<(x1.length:Int) then ((Xa4.f ((rd_T174 x0 x5).f0) ((rd_T174 x0 x5).f1) ((rd_T174 x0 x5).f2) ((rd_T174 x0 x5).f3) ((rd_T174 x1 x5).f0) ((rd_T174 x1 x5).f1) ((rd_T174 x1 x5).f2) ((rd_T174 x1 x5).f3)).bind fun t103=>(if t103=true then (Xv.l0 k x0 x1 (wrap64 (x5+1))) else (some false))) else (none)) else (none)) else (some true)
def Xv.f (k:Nat) (l0:List (S174)) (l1:List (S174)):Option (Bool):=if (l0.length:Int)=(l1.length:Int) then (Xv.l0 k l0 l1 0) else (some false)
def Xv.T6:Bool × List (List Nat × List Nat):=(true,[([],[]),([],[]),([0,1],[0,1]),([2],[2]),([],[]),([],[]),([4,5],[4,5]),([6],[6]),([3,7],[3,7]),([8],[8])])
def Xv.B6:List Nat:=[0,0,3,7,0,0,48,112,255,511]
theorem Xv.tab6:rtab .any (opsOf Tryz.f189 6)=Xv.T6:=by kernel_rfl
theorem Xv.bits6:waitsOk Xv.T6.2 Xv.B6=true:=by kernel_rfl
theorem Xv.calls (k:Nat) (A0:Option Addr) (c0:Nat) (l0:List (S174)) (A1:Option Addr) (c1:Nat) (l1:List (S174)) (r:Bool) (w:World) (h0:Rw k174 w A0 c0 l0) (h1:Rw k174 w A1 c1 l1) (H:Xv.f k l0 l1=some r) :
  Calls Tryz.prog 189 #[.slice A0 l0.length c0,.slice A1 l1.length c1] w fun e w'=>e = .returned (.bool r)∧Below w.heap.size w w':=by
 have hu174:=Tryz.underlying174
 obtain⟨HR0,HC0⟩:=h0
 obtain⟨HR1,HC1⟩:=h1
 have HB:=aM (Below.refl w.heap.size w)
 unfold Xv.f at H
 go_enter Tryz.func189,Tryz.ntmps189
 by_cases c3:(l0.length:Int)=(l1.length:Int)
 case neg =>
  rw[if_neg c3] at H
  obtain⟨c3b0,c3b1⟩:=eqF c3
  have c3b2:(l0.length == l1.length)=false:=by first | simpa using c3 | (simp at c3 ⊢;omega)
  exact fR
 rw[if_pos c3] at H
 obtain⟨c3b0,c3b1⟩:=eqT c3
 have c3b2:(l0.length == l1.length)=true:=by first | simpa using c3 | (simp at c3 ⊢;omega)
 clear c3
 have H':=aM H
 clear H
 go_wp2
 go_loopg [5] k (fun kq v5 w'=>∃ (x5_1:Int),v5 = .int .i64 x5_1∧Aside0 (Xv.l0 kq l0 l1 x5_1=some r)∧Aside0 (kq≤k)∧Aside0 (Below w.heap.size w w'))
 case atStart=>exact⟨(0),rS,H',⟨Nat.le_refl _⟩,⟨(hX HB.out)⟩⟩
 case round =>
  clear H'
  try clear c3
  try clear c3b0
  try clear c3b1
  try clear c3b2
  obtain⟨x5_1,rfl,HA,HKy1,HB⟩:=hrel
  cases gk with
  | zero=>exact absurd HA.out (by simp[Xv.l0])
  | succ k1 =>
   have H:=HA.out
   clear HA
   simp only[Xv.l0] at H
   revert H;refine iN ?_ ?_<;>intro c4b0 H
   ·obtain rfl:=sI H
    exact fS
   replace H:=ifQ H;obtain⟨c5b0,H⟩:=H
   replace H:=ifQ H;obtain⟨c6b0,H⟩:=H
   replace H:=bE H;obtain⟨t103,A7,H⟩:=H
   try go_wp2
   obtain⟨adx1,ex1,px1,qx1,hxx1⟩:=at_T174c HR0 HB x5_1
   cases ex1
   obtain⟨adx2,ex2,px2,qx2,hxx5⟩:=at_T174c HR1 HB x5_1
   cases ex2
   refine sR0 10 Xv.tab6 Xv.bits6 (fun HT_ HW_ hHeld => ?_)
   refine zA 0 ?_
   refine zA 1 ?_
   refine zA 2 ?_
   refine zA 4 ?_
   refine zA 5 ?_
   refine zA 6 ?_
   refine tA 3 ?_
   refine tA 7 ?_
   cases t103
   case false =>
    rw[if_neg nft] at H
    obtain rfl:=sI H
    refine eB 8 Tryz.func215 (Xa4.calls _ _ _ _ _ _ _ _ _ _ A7.out) (fun wx2 hb hHeld => ?_)
    replace HB:=aS HB hb
    (try clear hb)
    refine zA 9 ?_
    refine dA ?_
    try go_wp2
    go_ret
    exact⟨rE,(hX HB.out)⟩
   rw[if_pos rfl] at H
   have H':=aM H
   clear H
   refine eB 8 Tryz.func215 (Xa4.calls _ _ _ _ _ _ _ _ _ _ A7.out) (fun wx2 hb hHeld => ?_)
   replace HB:=aS HB hb
   (try clear hb)
   refine zA 9 ?_
   refine dA ?_
   try go_wp2
   go_roundg k1
   case measure=>have:=HKy1.out;omega
   case rel=>exact⟨(wrap64 (x5_1+1)),rS,H',⟨by have:=HKy1.out;omega⟩,⟨(hX HB.out)⟩⟩
def XA.l0:Nat→List (S69)→List (S69)→Int→Option (Bool)
 | 0,_,_,_=>none
 | k+1,x0,x1,x5=>if x5<(x0.length:Int) then (if 0≤x5 then (if x5<(x1.length:Int) then ((XaM.f ((rd_T69 x0 x5).f0) ((rd_T69 x0 x5).f1) ((rd_T69 x0 x5).f2) ((rd_T69 x1 x5).f0) ((rd_T69 x1 x5).f1) ((rd_T69 x1 x5).f2)).bind fun t103=>(if t103=true then (XA.l0 k x0 x1 (wrap64 (x5+1))) else (some false))) else (none)) else (none)) else (some true)
def XA.f (k:Nat) (l0:List (S69)) (l1:List (S69)):Option (Bool):=if (l0.length:Int)=(l1.length:Int) then (XA.l0 k l0 l1 0) else (some false)
def XA.T6:Bool × List (List Nat × List Nat):=(true,[([],[]),([],[]),([0,1],[0,1]),([2],[2]),([],[]),([],[]),([4,5],[4,5]),([6],[6]),([3,7],[3,7]),([8],[8])])
def XA.B6:List Nat:=[0,0,3,7,0,0,48,112,255,511]
theorem XA.tab6:rtab .any (opsOf Tryz.f70 6)=XA.T6:=by kernel_rfl
theorem XA.bits6:waitsOk XA.T6.2 XA.B6=true:=by kernel_rfl
theorem XA.calls (k:Nat) (A0:Option Addr) (c0:Nat) (l0:List (S69)) (A1:Option Addr) (c1:Nat) (l1:List (S69)) (r:Bool) (w:World) (h0:Rw k69 w A0 c0 l0) (h1:Rw k69 w A1 c1 l1) (H:XA.f k l0 l1=some r) :
  Calls Tryz.prog 70 #[.slice A0 l0.length c0,.slice A1 l1.length c1] w fun e w'=>e = .returned (.bool r)∧Below w.heap.size w w':=by
 have hu69:=Tryz.underlying69
 obtain⟨HR0,HC0⟩:=h0
 obtain⟨HR1,HC1⟩:=h1
 have HB:=aM (Below.refl w.heap.size w)
 unfold XA.f at H
 go_enter Tryz.func70,Tryz.ntmps70
 by_cases c3:(l0.length:Int)=(l1.length:Int)
 case neg =>
  rw[if_neg c3] at H
  obtain⟨c3b0,c3b1⟩:=eqF c3
  have c3b2:(l0.length == l1.length)=false:=by first | simpa using c3 | (simp at c3 ⊢;omega)
  exact fR
 rw[if_pos c3] at H
 obtain⟨c3b0,c3b1⟩:=eqT c3
 have c3b2:(l0.length == l1.length)=true:=by first | simpa using c3 | (simp at c3 ⊢;omega)
 clear c3
 have H':=aM H
 clear H
 go_wp2
 go_loopg [5] k (fun kq v5 w'=>∃ (x5_1:Int),v5 = .int .i64 x5_1∧Aside0 (XA.l0 kq l0 l1 x5_1=some r)∧Aside0 (kq≤k)∧Aside0 (Below w.heap.size w w'))
 case atStart=>exact⟨(0),rS,H',⟨Nat.le_refl _⟩,⟨(hX HB.out)⟩⟩
 case round =>
  clear H'
  try clear c3
  try clear c3b0
  try clear c3b1
  try clear c3b2
  obtain⟨x5_1,rfl,HA,HKy1,HB⟩:=hrel
  cases gk with
  | zero=>exact absurd HA.out (by simp[XA.l0])
  | succ k1 =>
   have H:=HA.out
   clear HA
   simp only[XA.l0] at H
   revert H;refine iN ?_ ?_<;>intro c4b0 H
   ·obtain rfl:=sI H
    exact fS
   replace H:=ifQ H;obtain⟨c5b0,H⟩:=H
   replace H:=ifQ H;obtain⟨c6b0,H⟩:=H
   replace H:=bE H;obtain⟨t103,A7,H⟩:=H
   try go_wp2
   obtain⟨adx1,ex1,px1,qx1,hxx1⟩:=at_T69c HR0 HB x5_1
   cases ex1
   obtain⟨adx2,ex2,px2,qx2,hxx4⟩:=at_T69c HR1 HB x5_1
   cases ex2
   refine sR0 10 XA.tab6 XA.bits6 (fun HT_ HW_ hHeld => ?_)
   refine zA 0 ?_
   refine zA 1 ?_
   refine zA 2 ?_
   refine zA 4 ?_
   refine zA 5 ?_
   refine zA 6 ?_
   refine tA 3 ?_
   refine tA 7 ?_
   cases t103
   case false =>
    rw[if_neg nft] at H
    obtain rfl:=sI H
    refine eB 8 Tryz.func128 (XaM.calls _ _ _ _ _ _ _ _ A7.out) (fun wx2 hb hHeld => ?_)
    replace HB:=aS HB hb
    (try clear hb)
    refine zA 9 ?_
    refine dA ?_
    try go_wp2
    go_ret
    exact⟨rE,(hX HB.out)⟩
   rw[if_pos rfl] at H
   have H':=aM H
   clear H
   refine eB 8 Tryz.func128 (XaM.calls _ _ _ _ _ _ _ _ A7.out) (fun wx2 hb hHeld => ?_)
   replace HB:=aS HB hb
   (try clear hb)
   refine zA 9 ?_
   refine dA ?_
   try go_wp2
   go_roundg k1
   case measure=>have:=HKy1.out;omega
   case rel=>exact⟨(wrap64 (x5_1+1)),rS,H',⟨by have:=HKy1.out;omega⟩,⟨(hX HB.out)⟩⟩
def XaQ.f (l0_0:List Int) (a0_1:Int) (a1:Int):Option (Int):=(Xa5.f l0_0 a1).bind fun t102=>(if t102<0 then (some (-1)) else (some t102))
theorem XaQ.calls (A0_0:Option Addr) (c0_0:Nat) (l0_0:List Int) (a0_1:Int) (a1:Int) (r:Int) (w:World) (h0_0:Rw (Kd.int .i64) w A0_0 c0_0 l0_0) (H:XaQ.f l0_0 a0_1 a1=some r) :
  Calls Tryz.prog 17 #[.agg #[.slice A0_0 l0_0.length c0_0,.int .i64 a0_1],.int .i64 a1] w fun e w'=>e = .returned (.int .i64 r)∧Below w.heap.size w w':=by
 have hu30:=Tryz.underlying30
 obtain⟨HR0_0,HC0_0⟩:=h0_0
 have HB:=aM (Below.refl w.heap.size w)
 unfold XaQ.f at H
 replace H:=bE H;obtain⟨t102,A3,H⟩:=H
 go_enter Tryz.func17,Tryz.ntmps17
 go_wp2_with (first | (refine boxE 2 #[.slice A0_0 l0_0.length c0_0,.int .i64 a0_1] 30 ?_;intro gbz1 hg wz1 hbox hb;have BKz1:=aM (hbox);have GWz1:=aG hg HB;replace HB:=aS HB hb;clear hb hbox hg;have hczz1:=cZ2 BKz1.out) | (refine gD 41 8 Tryz.func41 (Xa5.calls _ _ _ _ _ _ (rW HR0_0 HB HC0_0) A3.out) ?_;intro nd;refine Stop.out ?_))
 refine⟨?_⟩
 revert H;refine iP ?_ ?_<;>intro c4b0 H
 ·obtain rfl:=sI H
  exact fS
 exact fR
def Xad.l0:Nat→List (List (S116))→Int→Int→Option (Int)
 | 0,_,_,_=>none
 | k+1,x0,x1,x5=>if x5<(x0.length:Int) then (if 0≤x5 then ((Xa7.f (rd_L10 x0 x5) x1).bind fun t102=>(if t102<0 then (some (-1)) else (Xad.l0 k x0 t102 (wrap64 (x5+1))))) else (none)) else (some x1)
def Xad.f (k:Nat) (l0:List (List (S116))) (a1:Int):Option (Int):=if (wrap64 (a1 - (l0.length:Int)))<0 then (some (-1)) else (Xad.l0 k l0 (wrap64 (a1 - (l0.length:Int))) 0)
theorem Xad.calls (k:Nat) (A0:Option Addr) (c0:Nat) (l0:List (List (S116))) (a1:Int) (r:Int) (w:World) (h0:Rw (Kd.slice 116 k116) w A0 c0 l0) (H:Xad.f k l0 a1=some r) :
  Calls Tryz.prog 18 #[.slice A0 l0.length c0,.int .i64 a1] w fun e w'=>e = .returned (.int .i64 r)∧Drawn0 w w':=by
 obtain⟨HR0,HC0⟩:=h0
 unfold Xad.f at H
 go_enter Tryz.func18,Tryz.ntmps18
 revert H;refine iP ?_ ?_<;>intro c3b0 H
 ·obtain rfl:=sI H
  go_wp2
  go_ret
  exact⟨by first | rfl | (simp;done) | (simp[*];done),dX⟩
 have H':=aM H
 clear H
 go_wp2
 go_loopg [1,5] k (fun kq v1 v5 w'=>∃ (x1_1:Int) (x5_1:Int),v1 = .int .i64 x1_1∧v5 = .int .i64 x5_1∧Aside0 (Xad.l0 kq l0 x1_1 x5_1=some r)∧Aside0 (kq≤k)∧Drawn0 w w')
 case atStart=>exact⟨(wrap64 (a1 - (l0.length:Int))),(0),rS,rS,H',⟨Nat.le_refl _⟩,dX⟩
 case round =>
  clear H'
  try clear c3b0
  obtain⟨x1_1,x5_1,rfl,rfl,HA,HKy1,⟨my1,rfl⟩⟩:=hrel
  cases gk with
  | zero=>exact absurd HA.out (by simp[Xad.l0])
  | succ k1 =>
   have H:=HA.out
   clear HA
   simp only[Xad.l0] at H
   revert H;refine iN ?_ ?_<;>intro c4b0 H
   ·obtain rfl:=sI H
    go_wp2
    go_ret
    exact⟨by first | rfl | (simp;done) | (simp[*];done),dX⟩
   replace H:=ifQ H;obtain⟨c5b0,H⟩:=H
   replace H:=bE H;obtain⟨t102,A6,H⟩:=H
   have px1:0≤(x5_1:Int):=odA
   have qx1:x5_1<(l0.length:Int):=odA
   obtain⟨adx1,Ax1,cx1,ex1,hxx1,hlx1,hix1⟩:=at_L10 HR0.out x5_1 px1 qx1
   cases ex1
   have HRx1:=aM hix1
   have HCx1:=aM hlx1
   clear hix1 hlx1
   replace px1:=eq_true px1
   replace qx1:=eq_true qx1
   go_wp2_with (refine gD 62 23 Tryz.func62 (Xa7.calls _ _ _ _ _ _ (rw2 (cX HRx1.out) HCx1.out) A6.out) ?_;intro nd;refine Stop.out ?_)
   refine⟨?_⟩
   revert H;refine iP ?_ ?_<;>intro c7b0 H
   ·obtain rfl:=sI H
    go_wp2
    go_ret
    exact⟨by first | rfl | (simp;done) | (simp[*];done),dX⟩
   have H':=aM H
   clear H
   go_wp2
   go_roundg k1
   case measure=>have:=HKy1.out;omega
   case rel=>exact⟨(t102),(wrap64 (x5_1+1)),rS,rS,H',⟨by have:=HKy1.out;omega⟩,dX⟩
end Go.Proofs.YtmljebgideecjaaGreat.P2
