/- A part of the proof of the law FnExactReplay: texts of this seat, merged (words, printed functions of the program, plain lemmas). Conditions: none of its own. -/
import Derived.Test.YtmljebgideecjaaGreatP2kFnExactReplay10
set_option linter.unusedSimpArgs false
set_option linter.unusedVariables false
set_option maxHeartbeats 8000000
set_option maxRecDepth 100000
namespace Go.Proofs.YtmljebgideecjaaGreat.P2
open Go.Proofs.YtmljebgideecjaaGreatZ Go.RowKit Go.Proofs.YtmljebgideecjaaGreatW.PrintWords Go.Proofs.YtmljebgideecjaaGreatW.PrintLast Go.Proofs.YtmljebgideecjaaGreatW.PrintMore
attribute [local go_sem] max2_int min2_int max_two min_two max_three min_three max_four min_four   -- for this text's walks alone
def XaR.f (a0_0:Int) (a0_1:Int) (a0_2:Int) (a1_0:Int) (a1_1:Int) (a1_2:Int):Option (Bool):=if a0_0=a1_0 then (if a0_1=a1_1 then (if a0_2=a1_2 then (some true) else (some false)) else (some false)) else (some false)
theorem XaR.calls (a0_0:Int) (a0_1:Int) (a0_2:Int) (a1_0:Int) (a1_1:Int) (a1_2:Int) (r:Bool) (w:World) (H:XaR.f a0_0 a0_1 a0_2 a1_0 a1_1 a1_2=some r) :
  Calls Tryz.prog 128 #[.agg #[.int .i64 a0_0,.int .i64 a0_1,.int .i64 a0_2],.agg #[.int .i64 a1_0,.int .i64 a1_1,.int .i64 a1_2]] w fun e w'=>e = .returned (.bool r)∧Below w.heap.size w w':=by
 have hu69:=Tryz.underlying69
 have HB:=aM (Below.refl w.heap.size w)
 unfold XaR.f at H
 go_enter Tryz.func128,Tryz.ntmps128
 go_wp2_with (first | (refine boxE 2 #[.int .i64 a0_0,.int .i64 a0_1,.int .i64 a0_2] 69 ?_;intro gbz1 hg wz1 hbox hb;have BKz1:=aM (hbox);have GWz1:=aG hg HB;replace HB:=aS HB hb;clear hb hbox hg) | (refine boxE 3 #[.int .i64 a1_0,.int .i64 a1_1,.int .i64 a1_2] 69 ?_;intro gbz2 hg wz2 hbox hb;have BKz2:=aM (hbox);have GWz2:=aG hg HB;have NBz1:=aL hg BKz1;have NBz2:=aR hg BKz1;replace BKz1:=aB BKz1 hb;replace HB:=aS HB hb;clear hb hbox hg;have hnbz1:=nB NBz1 NBz2;have hczz1:=cZ3 BKz1.out;have hczz4:=cZ3 BKz2.out;refine Stop.out ?_))
 refine⟨?_⟩
 revert H;refine eN ?_ ?_<;>intro c3b0 c3b1 H
 ·obtain rfl:=sI H
  exact fS
 revert H;refine eN ?_ ?_<;>intro c4b0 c4b1 H
 ·obtain rfl:=sI H
  exact fS
 revert H;refine eN ?_ ?_<;>intro c5b0 c5b1 H
 ·obtain rfl:=sI H
  exact fS
 exact fR
def Xb.f (a0:Int) (a1:Int) (a2:Int):Option (Bool):=if a0 ≥ a1 then (some (decide (a0≤a2))) else (some false)
theorem Xb.calls (a0:Int) (a1:Int) (a2:Int) (r:Bool) (w:World) (H:Xb.f a0 a1 a2=some r) :
  Calls Tryz.prog 43 #[.int .i64 a0,.int .i64 a1,.int .i64 a2] w fun e w'=>e = .returned (.bool r)∧Drawn0 w w':=by
 unfold Xb.f at H
 go_enter Tryz.func43,Tryz.ntmps43
 revert H;refine iP ?_ ?_<;>intro c4b0 H
 ·obtain rfl:=sI H
  go_wp2
  go_ret
  exact⟨by first | rfl | (simp;done) | (simp[*];done),dX⟩
 obtain rfl:=sI H
 go_wp2
 go_ret
 exact⟨by first | rfl | (simp;done) | (simp[*];done),dX⟩
def XQ.l0:Nat→Int→Int→Int→Int→List (S165)→Int→List Int→Option (Int × Int × Int × Bool)
 | 0,_,_,_,_,_,_,_=>none
 | k+1,x1,x6,x102000,x102001,x102002,x102003,x102004=>if x6<(x102002.length:Int) then (if 0≤x6 then (if ((rd_T165 x102002 x6).f0)=x1 then (some ((rd_T165 x102002 x6).f0,(rd_T165 x102002 x6).f1,(rd_T165 x102002 x6).f2,true)) else (XQ.l0 k x1 (wrap64 (x6+1)) x102000 x102001 x102002 x102003 x102004)) else (none)) else (some (0,0,0,false))
def XQ.f (k:Nat) (a0_0:Int) (a0_1:Int) (l0_2:List (S165)) (a0_3:Int) (l0_4:List Int) (a1:Int):Option (Int × Int × Int × Bool):=XQ.l0 k a1 0 a0_0 a0_1 l0_2 a0_3 l0_4
theorem XQ.calls (k:Nat) (a0_0:Int) (a0_1:Int) (A0_2:Option Addr) (c0_2:Nat) (l0_2:List (S165)) (a0_3:Int) (A0_4:Option Addr) (c0_4:Nat) (l0_4:List Int) (a1:Int) (r1:Int) (r2:Int) (r3:Int) (r4:Bool) (w:World) (h0_2:Rw k165 w A0_2 c0_2 l0_2) (h0_4:Rw (Kd.int .i64) w A0_4 c0_4 l0_4) (H:XQ.f k a0_0 a0_1 l0_2 a0_3 l0_4 a1=some (r1,r2,r3,r4)) :
  Calls Tryz.prog 158 #[.agg #[.int .i64 a0_0,.int .i64 a0_1,.slice A0_2 l0_2.length c0_2,.int .i64 a0_3,.slice A0_4 l0_4.length c0_4],.int .i64 a1] w fun e w'=>e = .returned (.tuple #[.agg #[.int .i64 r1,.int .i64 r2,.int .i64 r3],.bool r4])∧Below w.heap.size w w':=by
 have hu162:=Tryz.underlying162
 have hu165:=Tryz.underlying165
 obtain⟨HR0_2,HC0_2⟩:=h0_2
 obtain⟨HR0_4,HC0_4⟩:=h0_4
 have HB:=aM (Below.refl w.heap.size w)
 unfold XQ.f at H
 have H':=aM H
 clear H
 go_enter Tryz.func158,Tryz.ntmps158
 go_wp2_with (first | (refine boxE 2 #[.int .i64 a0_0,.int .i64 a0_1,.slice A0_2 l0_2.length c0_2,.int .i64 a0_3,.slice A0_4 l0_4.length c0_4] 162 ?_;intro gbz1 hg wz1 hbox hb;have BKz1:=aM (hbox);have GWz1:=aG hg HB;replace HB:=aS HB hb;clear hb hbox hg) | (refine boxE 4 #[.int .i64 0,.int .i64 0,.int .i64 0] 165 ?_;intro gbz2 hg wz2 hbox hb;have BKz2:=aM (hbox);have GWz2:=aG hg HB;have NBz1:=aL hg BKz1;have NBz2:=aR hg BKz1;replace BKz1:=aB BKz1 hb;replace HB:=aS HB hb;clear hb hbox hg))
 go_loopg [6] k (fun kq v6 w'=>∃ (x6_1:Int) (x103000_1:Int) (x103001_1:Int) (x103002_1:Int),v6 = .int .i64 x6_1∧Aside0 (XQ.l0 kq a1 x6_1 a0_0 a0_1 l0_2 a0_3 l0_4=some (r1,r2,r3,r4))∧Aside0 (kq≤k)∧Aside0 (w'.heap[gbz1]? = some (.cells #[.int .i64 a0_0,.int .i64 a0_1,(.slice A0_2 l0_2.length c0_2),.int .i64 a0_3,(.slice A0_4 l0_4.length c0_4)] 162 (0,0)))∧Aside0 (w'.heap[gbz2]? = some (.cells #[.int .i64 x103000_1,.int .i64 x103001_1,.int .i64 x103002_1] 165 (0,0)))∧Aside0 (Below w.heap.size w w'))
 case atStart=>exact⟨(0),(0),(0),(0),rS,H',⟨Nat.le_refl _⟩,⟨(bX BKz1.out)⟩,⟨(bX BKz2.out)⟩,⟨(hX HB.out)⟩⟩
 case round =>
  clear H'
  obtain⟨x6_1,x103000_1,x103001_1,x103002_1,rfl,HA,HKy1,BKz1,BKz2,HB⟩:=hrel
  cases gk with
  | zero=>exact absurd HA.out (by simp[XQ.l0])
  | succ k1 =>
   have H:=HA.out
   clear HA
   simp only[XQ.l0] at H
   revert H;refine iN ?_ ?_<;>intro c5b0 H
   ·simp only[Option.some.injEq,Prod.mk.injEq] at H
    obtain⟨rfl,rfl,rfl,rfl⟩:=H
    have hnbx1:=NBz1.out
    have hncx1:=NBz2.out
    have hczx1:=cZ5 BKz1.out
    have hczx6:=cZ3 BKz2.out
    go_wp2
    refine bodyPost_ret (results_ct rfl _ _ gbz2 165 #[.int .i64 0,.int .i64 0,.int .i64 0] (0,0) _ rfl (bP BKz2.out) Tryz.underlying165 rfl (by kernel_rfl)) rfl ?_
    exact⟨rE,(hX HB.out)⟩
   replace H:=ifQ H;obtain⟨c6b0,H⟩:=H
   revert H;refine eN ?_ ?_<;>intro c7b0 c7b1 H
   ·have H':=aM H
    clear H
    have hnbx1:=NBz1.out
    have hncx1:=NBz2.out
    have hczx1:=cZ5 BKz1.out
    obtain⟨adx1,ex1,px1,qx1,hxx1⟩:=at_T165c HR0_2 HB x6_1
    cases ex1
    go_wp2
    go_roundg k1
    case measure=>have:=HKy1.out;omega
    case rel=>exact⟨(wrap64 (x6_1+1)),(x103000_1),(x103001_1),(x103002_1),rS,H',⟨by have:=HKy1.out;omega⟩,⟨(bX BKz1.out)⟩,⟨(bX BKz2.out)⟩,⟨(hX HB.out)⟩⟩
   simp only[Option.some.injEq,Prod.mk.injEq] at H
   obtain⟨rfl,rfl,rfl,rfl⟩:=H
   have hnbx1:=NBz1.out
   have hncx1:=NBz2.out
   have hczx1:=cZ5 BKz1.out
   obtain⟨adx1,ex1,px1,qx1,hxx1⟩:=at_T165c HR0_2 HB x6_1
   cases ex1
   obtain⟨adx2,ex2,px2,qx2,hxx4⟩:=at_T165c HR0_2 HB x6_1
   obtain rfl:adx1=adx2:=(by injection ex2)
   have hczx6:=cZ3 BKz2.out
   go_wp2
   refine bodyPost_ret (results_ct rfl _ _ gbz2 165 #[.int .i64 ((rd_T165 l0_2 x6_1).f0),.int .i64 ((rd_T165 l0_2 x6_1).f1),.int .i64 ((rd_T165 l0_2 x6_1).f2)] (0,0) _ rfl (bP BKz2.out) Tryz.underlying165 rfl (by kernel_rfl)) rfl ?_
   exact⟨rE,(hX HB.out)⟩
def Xo.l0:Nat→Int→Int→List Int→Int→Option (Int)
 | 0,_,_,_,_=>none
 | k+1,x1,x5,x102000,x102001=>if x5<(x102000.length:Int) then (if 0≤x5 then (if (rd x102000 x5)=x1 then (some x5) else (Xo.l0 k x1 (wrap64 (x5+1)) x102000 x102001)) else (none)) else (some (-1))
def Xo.f (k:Nat) (l0_0:List Int) (a0_1:Int) (a1:Int):Option (Int):=Xo.l0 k a1 0 l0_0 a0_1
theorem Xo.calls (k:Nat) (A0_0:Option Addr) (c0_0:Nat) (l0_0:List Int) (a0_1:Int) (a1:Int) (r:Int) (w:World) (h0_0:Rw (Kd.int .i64) w A0_0 c0_0 l0_0) (H:Xo.f k l0_0 a0_1 a1=some r) :
  Calls Tryz.prog 160 #[.agg #[.slice A0_0 l0_0.length c0_0,.int .i64 a0_1],.int .i64 a1] w fun e w'=>e = .returned (.int .i64 r)∧Below w.heap.size w w':=by
 have hu41:=Tryz.underlying41
 obtain⟨HR0_0,HC0_0⟩:=h0_0
 have HB:=aM (Below.refl w.heap.size w)
 unfold Xo.f at H
 have H':=aM H
 clear H
 go_enter Tryz.func160,Tryz.ntmps160
 go_wp2_with (refine boxE 2 #[.slice A0_0 l0_0.length c0_0,.int .i64 a0_1] 41 ?_;intro gbz1 hg wz1 hbox hb;have BKz1:=aM (hbox);have GWz1:=aG hg HB;replace HB:=aS HB hb;clear hb hbox hg)
 go_loopg [5] k (fun kq v5 w'=>∃ (x5_1:Int),v5 = .int .i64 x5_1∧Aside0 (Xo.l0 kq a1 x5_1 l0_0 a0_1=some r)∧Aside0 (kq≤k)∧Aside0 (w'.heap[gbz1]? = some (.cells #[(.slice A0_0 l0_0.length c0_0),.int .i64 a0_1] 41 (0,0)))∧Aside0 (Below w.heap.size w w'))
 case atStart=>exact⟨(0),rS,H',⟨Nat.le_refl _⟩,⟨(bX BKz1.out)⟩,⟨(hX HB.out)⟩⟩
 case round =>
  clear H'
  obtain⟨x5_1,rfl,HA,HKy1,BKz1,HB⟩:=hrel
  cases gk with
  | zero=>exact absurd HA.out (by simp[Xo.l0])
  | succ k1 =>
   have H:=HA.out
   clear HA
   simp only[Xo.l0] at H
   revert H;refine iN ?_ ?_<;>intro c4b0 H
   ·obtain rfl:=sI H
    have hczx1:=cZ2 BKz1.out
    exact fS
   replace H:=ifQ H;obtain⟨c5b0,H⟩:=H
   revert H;refine eP ?_ ?_<;>intro c6b0 c6b1 H
   ·obtain rfl:=sI H
    have hczx1:=cZ2 BKz1.out
    obtain⟨adx1,ex1,px1,qx1,hxx1⟩:=at_ic HR0_0 HB x5_1
    cases ex1
    exact fS
   have H':=aM H
   clear H
   have hczx1:=cZ2 BKz1.out
   obtain⟨adx1,ex1,px1,qx1,hxx1⟩:=at_ic HR0_0 HB x5_1
   cases ex1
   go_wp2
   go_roundg k1
   case measure=>have:=HKy1.out;omega
   case rel=>exact⟨(wrap64 (x5_1+1)),rS,H',⟨by have:=HKy1.out;omega⟩,⟨(bX BKz1.out)⟩,⟨(hX HB.out)⟩⟩
def Xbj.f (a0:Int):Option (Bool):=if a0=1 then (some true) else (if a0=2 then (some true) else (if a0=5 then (some true) else (some (a0 == 10))))
theorem Xbj.calls (a0:Int) (r:Bool) (w:World) (H:Xbj.f a0=some r) :
  Calls Tryz.prog 193 #[.int .i64 a0] w fun e w'=>e = .returned (.bool r)∧Drawn0 w w':=by
 unfold Xbj.f at H
 go_enter Tryz.func193,Tryz.ntmps193
 revert H;refine eP ?_ ?_<;>intro c2b0 c2b1 H
 ·obtain rfl:=sI H
  go_wp2
  go_ret
  exact⟨by first | rfl | (simp;done) | (simp[*];done),dX⟩
 revert H;refine eP ?_ ?_<;>intro c3b0 c3b1 H
 ·obtain rfl:=sI H
  go_wp2
  go_ret
  exact⟨by first | rfl | (simp;done) | (simp[*];done),dX⟩
 revert H;refine eN ?_ ?_<;>intro c4b0 c4b1 H
 ·obtain rfl:=sI H
  go_wp2
  go_ret
  exact⟨by first | rfl | (simp;done) | (simp[*];done),dX⟩
 obtain rfl:=sI H
 go_wp2
 go_ret
 exact⟨by first | rfl | (simp;done) | (simp[*];done),dX⟩
def Xaw.f (a0:Bool):Option (Int):=if a0=true then (some 1) else (some 0)
theorem Xaw.calls (a0:Bool) (r:Int) (w:World) (H:Xaw.f a0=some r) :
  Calls Tryz.prog 162 #[.bool a0] w fun e w'=>e = .returned (.int .i64 r)∧Drawn0 w w':=by
 unfold Xaw.f at H
 go_enter Tryz.func162,Tryz.ntmps162
 by_cases c2:a0=true
 ·subst c2
  rw[if_pos rfl] at H
  obtain rfl:=sI H
  go_wp2
  go_ret
  exact⟨by first | rfl | (simp;done) | (simp[*];done),dX⟩
 replace c2:=Bool.eq_false_iff.mpr c2
 subst c2
 rw[if_neg nft] at H
 obtain rfl:=sI H
 go_wp2
 go_ret
 exact⟨by first | rfl | (simp;done) | (simp[*];done),dX⟩
def Xae.l0:Nat→Int→Int→List (S140)→List (S162)→List (S97)→Int→List (S73)→List Int→List Int→Int→Option (Int)
 | 0,_,_,_,_,_,_,_,_,_,_=>none
 | k+1,x1,x5,x102000,x102001,x102002,x102003,x102004,x102005,x102006,x102007=>if x5 ≥ 0 then (if 0≤x5 then (if x5<(x102004.length:Int) then (if ((rd_T73 x102004 x5).f0)=x1 then (some x5) else (Xae.l0 k x1 (wrap64 (x5 - 1)) x102000 x102001 x102002 x102003 x102004 x102005 x102006 x102007)) else (none)) else (none)) else (some (-1))
def Xae.f (k:Nat) (l0_0:List (S140)) (l0_1:List (S162)) (l0_2:List (S97)) (a0_3:Int) (l0_4:List (S73)) (l0_5:List Int) (l0_6:List Int) (a0_7:Int) (a1:Int):Option (Int):=Xae.l0 k a1 (wrap64 ((l0_4.length:Int) - 1)) l0_0 l0_1 l0_2 a0_3 l0_4 l0_5 l0_6 a0_7
theorem Xae.calls (k:Nat) (A0_0:Option Addr) (c0_0:Nat) (l0_0:List (S140)) (A0_1:Option Addr) (c0_1:Nat) (l0_1:List (S162)) (A0_2:Option Addr) (c0_2:Nat) (l0_2:List (S97)) (a0_3:Int) (A0_4:Option Addr) (c0_4:Nat) (l0_4:List (S73)) (A0_5:Option Addr) (c0_5:Nat) (l0_5:List Int) (A0_6:Option Addr) (c0_6:Nat) (l0_6:List Int) (a0_7:Int) (a1:Int) (r:Int) (w:World) (h0_0:Rw k140 w A0_0 c0_0 l0_0) (h0_1:Rw k162 w A0_1 c0_1 l0_1) (h0_2:Rw k97 w A0_2 c0_2 l0_2) (h0_4:Rw k73 w A0_4 c0_4 l0_4) (h0_5:Rw (Kd.int .i64) w A0_5 c0_5 l0_5) (h0_6:Rw (Kd.int .i64) w A0_6 c0_6 l0_6) (H:Xae.f k l0_0 l0_1 l0_2 a0_3 l0_4 l0_5 l0_6 a0_7 a1=some r) :
  Calls Tryz.prog 163 #[.agg #[.slice A0_0 l0_0.length c0_0,.slice A0_1 l0_1.length c0_1,.slice A0_2 l0_2.length c0_2,.int .i64 a0_3,.slice A0_4 l0_4.length c0_4,.slice A0_5 l0_5.length c0_5,.slice A0_6 l0_6.length c0_6,.int .i64 a0_7],.int .i64 a1] w fun e w'=>e = .returned (.int .i64 r)∧Below w.heap.size w w':=by
 have hu43:=Tryz.underlying43
 obtain⟨HR0_0,HC0_0⟩:=h0_0
 obtain⟨HR0_1,HC0_1⟩:=h0_1
 obtain⟨HR0_2,HC0_2⟩:=h0_2
 obtain⟨HR0_4,HC0_4⟩:=h0_4
 obtain⟨HR0_5,HC0_5⟩:=h0_5
 obtain⟨HR0_6,HC0_6⟩:=h0_6
 have HB:=aM (Below.refl w.heap.size w)
 unfold Xae.f at H
 have H':=aM H
 clear H
 go_enter Tryz.func163,Tryz.ntmps163
 go_wp2_with (refine boxE 2 #[.slice A0_0 l0_0.length c0_0,.slice A0_1 l0_1.length c0_1,.slice A0_2 l0_2.length c0_2,.int .i64 a0_3,.slice A0_4 l0_4.length c0_4,.slice A0_5 l0_5.length c0_5,.slice A0_6 l0_6.length c0_6,.int .i64 a0_7] 43 ?_;intro gbz1 hg wz1 hbox hb;have BKz1:=aM (hbox);have GWz1:=aG hg HB;replace HB:=aS HB hb;clear hb hbox hg;have hczz1:=cZ8 BKz1.out)
 go_loopg [5] k (fun kq v5 w'=>∃ (x5_1:Int),v5 = .int .i64 x5_1∧Aside0 (Xae.l0 kq a1 x5_1 l0_0 l0_1 l0_2 a0_3 l0_4 l0_5 l0_6 a0_7=some r)∧Aside0 (kq≤k)∧Aside0 (w'.heap[gbz1]? = some (.cells #[(.slice A0_0 l0_0.length c0_0),(.slice A0_1 l0_1.length c0_1),(.slice A0_2 l0_2.length c0_2),.int .i64 a0_3,(.slice A0_4 l0_4.length c0_4),(.slice A0_5 l0_5.length c0_5),(.slice A0_6 l0_6.length c0_6),.int .i64 a0_7] 43 (0,0)))∧Aside0 (Below w.heap.size w w'))
 case atStart=>exact⟨(wrap64 ((l0_4.length:Int) - 1)),rS,H',⟨Nat.le_refl _⟩,⟨(bX BKz1.out)⟩,⟨(hX HB.out)⟩⟩
 case round =>
  clear H'
  try clear hczz1
  obtain⟨x5_1,rfl,HA,HKy1,BKz1,HB⟩:=hrel
  cases gk with
  | zero=>exact absurd HA.out (by simp[Xae.l0])
  | succ k1 =>
   have H:=HA.out
   clear HA
   simp only[Xae.l0] at H
   revert H;refine iN ?_ ?_<;>intro c5b0 H
   ·obtain rfl:=sI H
    exact fS
   replace H:=ifQ H;obtain⟨c6b0,H⟩:=H
   replace H:=ifQ H;obtain⟨c7b0,H⟩:=H
   revert H;refine eP ?_ ?_<;>intro c8b0 c8b1 H
   ·obtain rfl:=sI H
    have hczx1:=cZ8 BKz1.out
    obtain⟨adx1,Ax1,cx1,ex1,px1,qx1,hxx1,HCx1,HRx1⟩:=at_T73c HR0_4 HB x5_1
    cases ex1
    exact fS
   have H':=aM H
   clear H
   have hczx1:=cZ8 BKz1.out
   obtain⟨adx1,Ax1,cx1,ex1,px1,qx1,hxx1,HCx1,HRx1⟩:=at_T73c HR0_4 HB x5_1
   cases ex1
   go_wp2
   go_roundg k1
   case measure=>have:=HKy1.out;omega
   case rel=>exact⟨(wrap64 (x5_1 - 1)),rS,H',⟨by have:=HKy1.out;omega⟩,⟨(bX BKz1.out)⟩,⟨(hX HB.out)⟩⟩
def Xad.f (l0_0:List Int) (a0_1:Int):Option (List Int × Int):=(some (([]:List Int):List Int)).bind fun y103=>(if y103.length+l0_0.length<17592186044416 then (some ((y103 ++ l0_0),a0_1)) else (none))
def Xad.T1:Bool × List (List Nat × List Nat):=(true,[([],[]),([],[]),([1],[1]),([0,2],[0,2]),([],[]),([4],[4]),([3,5],[3,5]),([6,3,0,1,2,3,4,5,6],[6])])
def Xad.B1:List Nat:=[0,0,2,7,0,16,63,127]
theorem Xad.tab1:rtab .any (opsOf Tryz.f64 1)=Xad.T1:=by kernel_rfl
theorem Xad.bits1:waitsOk Xad.T1.2 Xad.B1=true:=by kernel_rfl
theorem Xad.calls (A0_0:Option Addr) (c0_0:Nat) (l0_0:List Int) (a0_1:Int) (r1:List Int) (r2:Int) (w:World) (h0_0:Rw (Kd.int .i64) w A0_0 c0_0 l0_0) (h:Xad.f l0_0 a0_1=some (r1,r2)) :
  Calls Tryz.prog 64 #[.agg #[.slice A0_0 l0_0.length c0_0,.int .i64 a0_1]] w fun e w'=>∃ v0_:Value,e = .returned (.agg #[v0_,.int .i64 r2])∧Kd.R (Kd.int .i64) 3 w' w.heap.size (fun _=>True) v0_ r1∧Below w.heap.size w w':=by
 have hu41:=Tryz.underlying41
 obtain⟨HR0_0,HC0_0⟩:=h0_0
 have HB:=aM (Below.refl w.heap.size w)
 have H:=h
 unfold Xad.f at H
 clear h
 replace H:=sE H;obtain⟨y103,Ny103,H⟩:=H
 replace H:=ifP H;obtain⟨c2,H⟩:=H
 have LMc2:=aM c2
 clear c2
 obtain⟨y106,hy106⟩:∃ y_:List Int,y_=(y103 ++ l0_0):=⟨_,rfl⟩
 replace H:(some (y106,a0_1))=some (r1,r2):=yH H hy106
 have Ny106:=aM hy106
 clear hy106
 simp only[Option.some.injEq,Prod.mk.injEq] at H
 obtain⟨rfl,rfl⟩:=H
 go_enter Tryz.func64,Tryz.ntmps64
 try go_wp2_with (first | (refine boxE 1 #[.slice A0_0 l0_0.length c0_0,.int .i64 a0_1] 41 ?_;intro gbz1 hg wz1 hbox hb;have BKz1:=aM (hbox);have GWz1:=aG hg HB;replace HB:=aS HB hb;clear hb hbox hg) | (refine boxE 2 #[.slice none 0 0,.int .i64 0] 41 ?_;intro gbz2 hg wz2 hbox hb;have BKz2:=aM (hbox);have GWz2:=aG hg HB;have NBz1:=aL hg BKz1;have NBz2:=aR hg BKz1;replace BKz1:=aB BKz1 hb;replace HB:=aS HB hb;clear hb hbox hg))
 replace BKz1:=aM (blk_drew BKz1.out)
 replace BKz2:=aM (blk_drew BKz2.out)
 replace HB:=aM (below_drew1 HB.out)
 refine start_ (n:=8) (S:=fun w'=>w'.cell? ⟨gbz1,0,none⟩=some (.slice A0_0 l0_0.length c0_0)∧w'.cell? ⟨gbz1,1,none⟩=some (.int .i64 a0_1)) (ds:=[]) (bm 8 0) (by kernel_rfl) rfl (by kernel_rfl) ⟨cK BKz1.out 0,cK BKz1.out 1⟩ (fun hHeld => ?_);refine with_tabW Xad.tab1 Xad.bits1 (fun HT_ HW_ => ?_)
 generalize wz2.drew=wz3 at BKz1 BKz2 HB hHeld ⊢
 refine pZ 1 4 (bm 8 2) HT_.out ?_
 refine pZ 4 7 (bm 8 18) HT_.out ?_
 refine tZ 2 5 (bm 8 22) HT_.out HW_.out hHeld ?_
 refine tZ 5 8 (bm 8 54) HT_.out HW_.out hHeld ?_
 refine oZ 0 (some 3) (bm 8 55) HT_.out (fun K hK => ?_)
 refine Kd.R_lit_step (Kd.int .i64) _ 3 ?hg (N:=3) ?hd (xs:=([]:List Int)) (inner:=[]) (ok:=fun _=>True) (okp:=fun _=>True) ?hr ?hp (fun _ hk=>hk) trivial (Below.refl _ _) (Nat.le_refl _) (by simp) ?_;(case hd=>rfl);(case hg=>rfl);(case hr=>first | (go_simp;done) | (go_simp;rfl));(case hp=>exact(Reps.none _ _))
 intro vz1 wz4 hoz1 hb hg_ hnew_
 clear hg_ hnew_
 (first | rw[← Ny103.out] at hoz1 | (simp only[Int.reduceToNat] at hoz1;rw[← Ny103.out] at hoz1))
 have HOz1:=aM (Kd.R_lower hoz1 (below_size (hX HB.out)))
 replace BKz1:=aB BKz1 hb
 replace BKz2:=aB BKz2 hb
 replace HB:=aS HB hb
 clear hb hoz1
 refine hK.out _ _ ⟨cK BKz1.out 0,cK BKz1.out 1⟩ (fun hHeld => ?_)
 clear hK K
 refine nZ 3 ?_
 refine oZ 3 (some 6) (bm 8 63) HT_.out (fun K hK => ?_)
 refine Kd.R_append_rows_step (Kd.int .i64) (w0:=w) w.heap.size (by rfl) (.tmp 3) (.tmp 5) 28 3 (.int .i64 0) 8 rfl Tryz.underlying28 info3 rfl (by decide) (by omega) vz1 y103 l0_0 _ _ _ (fun _=>True) (fun _=>False) rfl rfl ?aO ?aR (fun _ _ h=>h) (fun _ h=>h.elim) ?aF ?aB ?aS ?aL ?_
 (case aR=>repeat (first | exact(Kd.C_below HR0_0.out HB.out) | (with_reducible refine Kd.C_alloc ?_ _) | (with_reducible refine Kd.C_drewN ?_ _) | (with_reducible refine Kd.C_drew ?_)))
 (case aB=>exact(hX HB.out))
 (case aF=>exact(fun _ _=>trivial))
 (case aO=>exact(rX HOz1.out))
 (case aS=>exact(below_size (hX HB.out)))
 (case aL=>have:=LMc2.out;omega)
 intro vz2 wz5 ho hb hg hat
 rw[← Ny106.out] at ho
 have HOz2:=aM (ho)
 replace BKz1:=aM (blk_grown (g:=gbz1) (o:=.cells #[.slice A0_0 l0_0.length c0_0,.int .i64 a0_1] 41 (0,0)) (bX BKz1.out) hg (Kd.R_ne HOz1.out BKz1.out (by decide)))
 replace BKz2:=aM (blk_grown (g:=gbz2) (o:=.cells #[.slice none 0 0,.int .i64 0] 41 (0,0)) (bX BKz2.out) hg (Kd.R_ne HOz1.out BKz2.out (by decide)))
 replace HB:=aM (hb)
 clear HOz1
 clear ho hb hg hat
 obtain⟨Aoz1,coz1,eoz1⟩:=Kd.R_slice HOz2.out
 (first | subst eoz1 | (injection eoz1 with f1_ f2_ f3_;have fz1:=f1_.symm;have fz2:=f3_.symm;clear f1_ f2_ f3_;subst fz1;subst fz2))
 refine hK.out _ _ ⟨cK BKz1.out 0,cK BKz1.out 1⟩ (fun hHeld => ?_)
 clear hK K
 refine nZ 6 ?_
 refine pZ 6 9 (bm 8 127) HT_.out ?_
 refine oZ 7 none (bm 8 255) HT_.out (fun K hK => ?_)
 have hsz1:wz5.cell? ⟨gbz2,0,none⟩=some (.slice none 0 0):=(blk_cell BKz2.out 0).trans rfl
 have hfsz1:=blk_frozen BKz2.out 0
 have hnsz1:=NBz1.out
 have hmsz1:=NBz2.out
 have hsz2:wz5.cell? ⟨gbz2,1,none⟩=some (.int .i64 0):=(blk_cell BKz2.out 1).trans rfl
 have hfsz2:=blk_frozen BKz2.out 1
 have hnsz2:=NBz1.out
 have hmsz2:=NBz2.out
 refine skip_ (w1:=?_) (by rfl) rfl ?_ ?_
 rotate_left
 ·go_simp
  rfl
 refine hK.out _ _ ⟨(fA NBz1.out hHeld.1),(fA NBz1.out hHeld.2)⟩ (fun hHeld => ?_)
 clear hK K
 refine done_ (done_of HT_.out (by kernel_rfl)) ?_
 try go_wp2
 refine bodyPost_ret (results_cell_row rfl _ _ gbz2 41 #[.slice Aoz1 y106.length coz1,.int .i64 a0_1] (0,0) _ rfl (bP BKz2.out) Tryz.underlying41 rfl (by kernel_rfl)) rfl ?_
 exact⟨_,rE,(Kd.R_mono (rF HOz2.out BKz2.out) (fun _ hk=>trivial)),(hX HB.out)⟩
mutual
def XD.l0:Nat→List Int→List Int→Int→Option (Bool)
 | 0,_,_,_=>none
 | k+1,x0,x1,x5=>if x5<(x0.length:Int) then (XD.j1 k x0 x1 x5 (decide (x5<(x1.length:Int)))) else (XD.j1 k x0 x1 x5 false)
def XD.j1:Nat→List Int→List Int→Int→Bool→Option (Bool)
 | 0,_,_,_,_=>none
 | k+1,x0,x1,x5,x15=>if x15=true then (if 0≤x5 then (if x5<(x0.length:Int) then (if x5<(x1.length:Int) then (if (rd x0 x5)=(rd x1 x5) then (XD.l0 k x0 x1 (wrap64 (x5+1))) else (some false)) else (none)) else (none)) else (none)) else (some ((x0.length:Int) == (x1.length:Int)))
end
def XD.f (k:Nat) (l0:List Int) (l1:List Int):Option (Bool):=XD.l0 k l0 l1 0
theorem XD.calls (k:Nat) (A0:Option Addr) (c0:Nat) (l0:List Int) (A1:Option Addr) (c1:Nat) (l1:List Int) (r:Bool) (w:World) (h0:Rw (Kd.int .i64) w A0 c0 l0) (h1:Rw (Kd.int .i64) w A1 c1 l1) (H:XD.f k l0 l1=some r) :
  Calls Tryz.prog 84 #[.slice A0 l0.length c0,.slice A1 l1.length c1] w fun e w'=>e = .returned (.bool r)∧Drawn0 w w':=by
 obtain⟨HR0,HC0⟩:=h0
 obtain⟨HR1,HC1⟩:=h1
 unfold XD.f at H
 have H':=aM H
 clear H
 go_enter Tryz.func84,Tryz.ntmps84
 go_wp2
 repeat (go_quiet (fail);try go_wp2)
 go_loopg [5] k (fun kq v5 w'=>∃ (x5_1:Int),v5 = .int .i64 x5_1∧Aside0 (XD.l0 kq l0 l1 x5_1=some r)∧Aside0 (kq≤k)∧Drawn0 w w')
 case atStart=>exact⟨(0),rS,H',⟨Nat.le_refl _⟩,dX⟩
 case round =>
  clear H'
  obtain⟨x5_1,rfl,HA,HKy1,⟨my1,rfl⟩⟩:=hrel
  cases gk with
  | zero=>exact absurd HA.out (by simp[XD.l0])
  | succ k1 =>
   have H:=HA.out
   clear HA
   simp only[XD.l0] at H
   have HC3:=aM H
   clear H
   go_upto_region 2 with(fail)
   repeat (go_quiet (fail);go_upto_region 2 with(fail))
   go_cut [15] (fun vx1 wc=>∃ (kq:Nat) (x15_2:Bool),vx1 = .bool x15_2∧Aside0 (XD.j1 kq l0 l1 x5_1 x15_2=some r)∧Aside0 (kq≤k1)∧Drawn0 w wc)
   case first =>
    have H:=HC3.out
    clear HC3
    revert H;refine iN ?_ ?_<;>intro c4b0 H
    ·(first | rw[c4b0] | (simp only[i64_w,i32_w];rw[c4b0]) | skip)
     have H':=aM H
     clear H
     go_wp2
     repeat (go_quiet (fail);try go_wp2)
     go_meet
     case rel=>exact⟨_,(false),rS,H',⟨by have:=HKy1.out;first | omega | exact Nat.le_refl _⟩,dX⟩
    (first | rw[c4b0] | (simp only[i64_w,i32_w];rw[c4b0]) | skip)
    have H':=aM H
    clear H
    go_wp2
    repeat (go_quiet (fail);try go_wp2)
    go_meet
    case rel=>exact⟨_,(decide (x5_1<(l1.length:Int))),rS,H',⟨by have:=HKy1.out;first | omega | exact Nat.le_refl _⟩,dX⟩
   case rest =>
    clear HC3
    obtain⟨kq,x15_2,rfl,HA,HJw1,⟨mcw1,rfl⟩⟩:=hcut
    cases kq with
    | zero=>exact absurd HA.out (by simp[XD.j1])
    | succ kj2 =>
     have H:=HA.out
     clear HA
     simp only[XD.j1] at H
     cases x15_2
     case false =>
      rw[if_neg nft] at H
      obtain rfl:=sI H
      go_wp2
      repeat (go_quiet (fail);try go_wp2)
      go_ret
      exact⟨by first | rfl | (simp;done) | (simp[*];done),dX⟩
     rw[if_pos rfl] at H
     replace H:=ifQ H;obtain⟨c6b0,H⟩:=H
     replace H:=ifQ H;obtain⟨c7b0,H⟩:=H
     replace H:=ifQ H;obtain⟨c8b0,H⟩:=H
     revert H;refine eN ?_ ?_<;>intro c9b0 c9b1 H
     ·obtain rfl:=sI H
      have pv1:0≤(x5_1:Int):=odA
      have qv1:x5_1<(l0.length:Int):=odA
      obtain⟨adv1,ev1,hxv1⟩:=Kd.at_int HR0.out x5_1 pv1 qv1
      cases ev1
      replace pv1:=eq_true pv1
      replace qv1:=eq_true qv1
      have pv2:0≤(x5_1:Int):=odA
      have qv2:x5_1<(l1.length:Int):=odA
      obtain⟨adv2,ev2,hxv2⟩:=Kd.at_int HR1.out x5_1 pv2 qv2
      cases ev2
      replace pv2:=eq_true pv2
      replace qv2:=eq_true qv2
      go_wp2
      repeat (go_quiet (fail);try go_wp2)
      go_ret
      exact⟨by first | rfl | (simp;done) | (simp[*];done),dX⟩
     have H':=aM H
     clear H
     have pv1:0≤(x5_1:Int):=odA
     have qv1:x5_1<(l0.length:Int):=odA
     obtain⟨adv1,ev1,hxv1⟩:=Kd.at_int HR0.out x5_1 pv1 qv1
     cases ev1
     replace pv1:=eq_true pv1
     replace qv1:=eq_true qv1
     have pv2:0≤(x5_1:Int):=odA
     have qv2:x5_1<(l1.length:Int):=odA
     obtain⟨adv2,ev2,hxv2⟩:=Kd.at_int HR1.out x5_1 pv2 qv2
     cases ev2
     replace pv2:=eq_true pv2
     replace qv2:=eq_true qv2
     go_wp2
     repeat (go_quiet (fail);try go_wp2)
     go_roundg kj2
     case measure=>have:=HKy1.out;have:=HJw1.out;omega
     case rel=>exact⟨(wrap64 (x5_1+1)),rS,H',⟨by have:=HKy1.out;have:=HJw1.out;omega⟩,dX⟩
def Xd.f (a0:Int) (a1:Int) (a2:Int):Option (Bool):=if a0 ≥ a1 then (some (decide (a0≤a2))) else (some false)
theorem Xd.calls (a0:Int) (a1:Int) (a2:Int) (r:Bool) (w:World) (H:Xd.f a0 a1 a2=some r) :
  Calls Tryz.prog 102 #[.int .i64 a0,.int .i64 a1,.int .i64 a2] w fun e w'=>e = .returned (.bool r)∧Drawn0 w w':=by
 unfold Xd.f at H
 go_enter Tryz.func102,Tryz.ntmps102
 revert H;refine iP ?_ ?_<;>intro c4b0 H
 ·obtain rfl:=sI H
  go_wp2
  go_ret
  exact⟨by first | rfl | (simp;done) | (simp[*];done),dX⟩
 obtain rfl:=sI H
 go_wp2
 go_ret
 exact⟨by first | rfl | (simp;done) | (simp[*];done),dX⟩
def X4.l0:Nat→Int→List (S165)→Int→Int→Option (Int × Int × Int × Bool)
 | 0,_,_,_,_=>none
 | k+1,x1,x9,x10,x11=>if x11<x10 then (if 0≤x11 then (if x11<(x9.length:Int) then (if ((rd_T165 x9 x11).f0)=x1 then (some ((rd_T165 x9 x11).f0,(rd_T165 x9 x11).f1,(rd_T165 x9 x11).f2,true)) else (X4.l0 k x1 x9 x10 (wrap64 (x11+1)))) else (none)) else (none)) else (some (0,0,0,false))
def X4.f (k:Nat) (a0_0:Int) (a0_1:Int) (l0_2:List (S165)) (a0_3:Int) (l0_4:List Int) (a1:Int):Option (Int × Int × Int × Bool):=X4.l0 k a1 l0_2 (l0_2.length:Int) 0
theorem X4.calls (k:Nat) (a0_0:Int) (a0_1:Int) (A0_2:Option Addr) (c0_2:Nat) (l0_2:List (S165)) (a0_3:Int) (A0_4:Option Addr) (c0_4:Nat) (l0_4:List Int) (a1:Int) (r1:Int) (r2:Int) (r3:Int) (r4:Bool) (w:World) (h0_2:Rw k165 w A0_2 c0_2 l0_2) (h0_4:Rw (Kd.int .i64) w A0_4 c0_4 l0_4) (H:X4.f k a0_0 a0_1 l0_2 a0_3 l0_4 a1=some (r1,r2,r3,r4)) :
  Calls Tryz.prog 173 #[.agg #[.int .i64 a0_0,.int .i64 a0_1,.slice A0_2 l0_2.length c0_2,.int .i64 a0_3,.slice A0_4 l0_4.length c0_4],.int .i64 a1] w fun e w'=>e = .returned (.tuple #[.agg #[.int .i64 r1,.int .i64 r2,.int .i64 r3],.bool r4])∧Below w.heap.size w w':=by
 have hu162:=Tryz.underlying162
 have hu165:=Tryz.underlying165
 obtain⟨HR0_2,HC0_2⟩:=h0_2
 obtain⟨HR0_4,HC0_4⟩:=h0_4
 have HB:=aM (Below.refl w.heap.size w)
 unfold X4.f at H
 have H':=aM H
 clear H
 go_enter Tryz.func173,Tryz.ntmps173
 go_wp2_with (first | (refine boxE 2 #[.int .i64 a0_0,.int .i64 a0_1,.slice A0_2 l0_2.length c0_2,.int .i64 a0_3,.slice A0_4 l0_4.length c0_4] 162 ?_;intro gbz1 hg wz1 hbox hb;have BKz1:=aM (hbox);have GWz1:=aG hg HB;replace HB:=aS HB hb;clear hb hbox hg) | (refine boxE 4 #[.int .i64 0,.int .i64 0,.int .i64 0] 165 ?_;intro gbz2 hg wz2 hbox hb;have BKz2:=aM (hbox);have GWz2:=aG hg HB;have NBz1:=aL hg BKz1;have NBz2:=aR hg BKz1;replace BKz1:=aB BKz1 hb;replace HB:=aS HB hb;clear hb hbox hg;have hnbz1:=nB NBz1 NBz2;have hczz1:=cZ5 BKz1.out))
 go_loopg [11] k (fun kq v11 w'=>∃ (x11_1:Int) (x103000_1:Int) (x103001_1:Int) (x103002_1:Int),v11 = .int .i64 x11_1∧Aside0 (X4.l0 kq a1 l0_2 (l0_2.length:Int) x11_1=some (r1,r2,r3,r4))∧Aside0 (kq≤k)∧Aside0 (w'.heap[gbz1]? = some (.cells #[.int .i64 a0_0,.int .i64 a0_1,(.slice A0_2 l0_2.length c0_2),.int .i64 a0_3,(.slice A0_4 l0_4.length c0_4)] 162 (0,0)))∧Aside0 (w'.heap[gbz2]? = some (.cells #[.int .i64 x103000_1,.int .i64 x103001_1,.int .i64 x103002_1] 165 (0,0)))∧Aside0 (Below w.heap.size w w'))
 case atStart=>exact⟨(0),(0),(0),(0),rS,H',⟨Nat.le_refl _⟩,⟨(bX BKz1.out)⟩,⟨(bX BKz2.out)⟩,⟨(hX HB.out)⟩⟩
 case round =>
  clear H'
  try clear hczz1
  obtain⟨x11_1,x103000_1,x103001_1,x103002_1,rfl,HA,HKy1,BKz1,BKz2,HB⟩:=hrel
  cases gk with
  | zero=>exact absurd HA.out (by simp[X4.l0])
  | succ k1 =>
   have H:=HA.out
   clear HA
   simp only[X4.l0] at H
   revert H;refine iN ?_ ?_<;>intro c7b0 H
   ·simp only[Option.some.injEq,Prod.mk.injEq] at H
    obtain⟨rfl,rfl,rfl,rfl⟩:=H
    have hnbx1:=NBz2.out
    have hncx1:=NBz1.out
    have hczx1:=cZ3 BKz2.out
    go_wp2
    refine bodyPost_ret (results_ct rfl _ _ gbz2 165 #[.int .i64 0,.int .i64 0,.int .i64 0] (0,0) _ rfl (bP BKz2.out) Tryz.underlying165 rfl (by kernel_rfl)) rfl ?_
    exact⟨rE,(hX HB.out)⟩
   replace H:=ifQ H;obtain⟨c8b0,H⟩:=H
   replace H:=ifQ H;obtain⟨c9b0,H⟩:=H
   revert H;refine eN ?_ ?_<;>intro c10b0 c10b1 H
   ·have H':=aM H
    clear H
    obtain⟨adx1,ex1,px1,qx1,hxx1⟩:=at_T165c HR0_2 HB x11_1
    cases ex1
    go_wp2_with (refine boxE 7 #[.int .i64 0,.int .i64 0,.int .i64 0] 165 ?_;intro gbx1 hg wx1 hbox hb;have BKx1:=aM (hbox);have GWx1:=aG hg HB;have GEx1:=aG hg HB;have NBx1:=aL hg BKz1;have NBx2:=aR hg BKz1;have NBx3:=aL hg BKz2;have NBx4:=aR hg BKz2;replace BKz1:=aB BKz1 hb;replace BKz2:=aB BKz2 hb;replace HB:=aS HB hb;clear hb hbox hg;have hnbx1:=NBx2.out;have hncx1:=NBx1.out;have hnbx2:=NBx4.out;have hncx2:=NBx3.out;have hczx1:=cZ3 BKx1.out)
    go_roundg k1
    case measure=>have:=HKy1.out;omega
    case rel=>exact⟨(wrap64 (x11_1+1)),(x103000_1),(x103001_1),(x103002_1),rS,H',⟨by have:=HKy1.out;omega⟩,⟨(bF BKz1.out)⟩,⟨(bF BKz2.out)⟩,⟨(hX HB.out)⟩⟩
   simp only[Option.some.injEq,Prod.mk.injEq] at H
   obtain⟨rfl,rfl,rfl,rfl⟩:=H
   obtain⟨adx1,ex1,px1,qx1,hxx1⟩:=at_T165c HR0_2 HB x11_1
   cases ex1
   go_wp2_with (refine boxE 7 #[.int .i64 0,.int .i64 0,.int .i64 0] 165 ?_;intro gbx1 hg wx1 hbox hb;have BKx1:=aM (hbox);have GWx1:=aG hg HB;have GEx1:=aG hg HB;have NBx1:=aL hg BKz1;have NBx2:=aR hg BKz1;have NBx3:=aL hg BKz2;have NBx4:=aR hg BKz2;replace BKz1:=aB BKz1 hb;replace BKz2:=aB BKz2 hb;replace HB:=aS HB hb;clear hb hbox hg;have hnbx1:=NBx2.out;have hncx1:=NBx1.out;have hnbx2:=NBx4.out;have hncx2:=NBx3.out;have hczx1:=cZ3 BKx1.out;have hnbx3:=nB NBz2 NBz1;have hczx4:=cZ3 BKz2.out)
   refine bodyPost_ret (results_ct rfl _ _ gbz2 165 #[.int .i64 ((rd_T165 l0_2 x11_1).f0),.int .i64 ((rd_T165 l0_2 x11_1).f1),.int .i64 ((rd_T165 l0_2 x11_1).f2)] (0,0) _ rfl (bP BKz2.out) Tryz.underlying165 rfl (by kernel_rfl)) rfl ?_
   exact⟨rE,(hX HB.out)⟩
def slices_Index_int_int.l0:Nat→List Int→Int→Int→Int→Option (Int)
 | 0,_,_,_,_=>none
 | k+1,x0,x1,x7,x8=>if x8<x7 then (if 0≤x8 then (if x8<(x0.length:Int) then (if x1=(rd x0 x8) then (some x8) else (slices_Index_int_int.l0 k x0 x1 x7 (wrap64 (x8+1)))) else (none)) else (none)) else (some (-1))
def slices_Index_int_int.f (k:Nat) (l0:List Int) (a1:Int):Option (Int):=slices_Index_int_int.l0 k l0 a1 (l0.length:Int) 0
theorem slices_Index_int_int.calls (k:Nat) (A0:Option Addr) (c0:Nat) (l0:List Int) (a1:Int) (r:Int) (w:World) (hr0:Kd.C (Kd.int .i64) w A0 l0.length l0) (hc0:l0.length≤c0) (H:slices_Index_int_int.f k l0 a1=some r) :
  Calls Tryz.prog 209 #[.slice A0 l0.length c0,.int .i64 a1] w fun e w'=>e = .returned (.int .i64 r)∧Drawn0 w w':=by
 have HR0:=aM hr0
 have HC0:=aM hc0
 clear hr0 hc0
 unfold slices_Index_int_int.f at H
 have H':=aM H
 clear H
 go_enter Tryz.func209,Tryz.ntmps209
 go_wp2
 go_loopg [8] k (fun kq v8 w'=>∃ (x8_1:Int),v8 = .int .i64 x8_1∧Aside0 (slices_Index_int_int.l0 kq l0 a1 (l0.length:Int) x8_1=some r)∧Aside0 (kq≤k)∧Drawn0 w w')
 case atStart=>exact⟨(0),rS,H',⟨Nat.le_refl _⟩,dX⟩
 case round =>
  clear H'
  obtain⟨x8_1,rfl,HA,HKy1,⟨my1,rfl⟩⟩:=hrel
  cases gk with
  | zero=>exact absurd HA.out (by simp[slices_Index_int_int.l0])
  | succ k1 =>
   have H:=HA.out
   clear HA
   simp only[slices_Index_int_int.l0] at H
   revert H;refine iN ?_ ?_<;>intro c3b0 H
   ·obtain rfl:=sI H
    go_wp2
    go_ret
    exact⟨by first | rfl | (simp;done) | (simp[*];done),dX⟩
   replace H:=ifQ H;obtain⟨c4b0,H⟩:=H
   replace H:=ifQ H;obtain⟨c5b0,H⟩:=H
   revert H;refine eP ?_ ?_<;>intro c6b0 c6b1 H
   ·obtain rfl:=sI H
    have px1:0≤(x8_1:Int):=odA
    have qx1:x8_1<(l0.length:Int):=odA
    obtain⟨adx1,ex1,hxx1⟩:=Kd.at_int HR0.out x8_1 px1 qx1
    cases ex1
    replace px1:=eq_true px1
    replace qx1:=eq_true qx1
    go_wp2
    go_ret
    exact⟨by first | rfl | (simp;done) | (simp[*];done),dX⟩
   have H':=aM H
   clear H
   have px1:0≤(x8_1:Int):=odA
   have qx1:x8_1<(l0.length:Int):=odA
   obtain⟨adx1,ex1,hxx1⟩:=Kd.at_int HR0.out x8_1 px1 qx1
   cases ex1
   replace px1:=eq_true px1
   replace qx1:=eq_true qx1
   go_wp2
   go_roundg k1
   case measure=>have:=HKy1.out;omega
   case rel=>exact⟨(wrap64 (x8_1+1)),rS,H',⟨by have:=HKy1.out;omega⟩,dX⟩
end Go.Proofs.YtmljebgideecjaaGreat.P2
