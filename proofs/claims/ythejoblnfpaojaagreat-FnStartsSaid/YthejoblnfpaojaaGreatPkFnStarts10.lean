/- A part of the proof of the law FnStarts: texts of this seat, merged (words, printed functions of the program, plain lemmas). Conditions: none of its own. -/
import Derived.Lib.SliceRun
import Derived.Test.YthejoblnfpaojaaGreatPkFnStarts9
set_option linter.unusedSimpArgs false
set_option linter.unusedVariables false
set_option maxHeartbeats 8000000
set_option maxRecDepth 100000
namespace Go.Proofs.YthejoblnfpaojaaGreatZ
open Go.RowKit Go.Proofs.YthejoblnfpaojaaGreatW.PrintWords Go.Proofs.YthejoblnfpaojaaGreatW.PrintLast Go.Proofs.YthejoblnfpaojaaGreatW.PrintMore
structure Rw {α : Type} (k : Kd α) (w : World) (A : Option Addr) (c : Nat) (l : List α) : Prop where
  C : Aside0 (k.C w A l.length l)
  L : Aside0 (l.length ≤ c)
theorem rW {α : Type} {k : Kd α} {w0 w1 W0 w : World} {A : Option Addr} {c n : Nat} {l : List α} (h : Aside0 (k.C w0 A n l)) (b : Aside0 (Below w1.heap.size w1 W0)) (L : Aside0 (n ≤ c))
    (f : k.C w0 A n l → Below w1.heap.size w1 W0 → k.C w A l.length l := by intro h_ b_; repeat (first | exact Kd.C_below h_ b_ | exact Kd.C_below h_ (by repeat (first | (with_reducible first | exact b_ | apply below_alloc | apply pw_below_drewN | apply below_drew1 | refine below_set ?_ (Aside0.out (by assumption))) | exact b_)) | (with_reducible refine Kd.C_alloc ?_ _) | (with_reducible refine Kd.C_drewN ?_ _) | (with_reducible refine Kd.C_drew ?_)))
    (e : n ≤ c → l.length ≤ c := by exact fun h_ => h_) : Rw k w A c l := ⟨⟨f h.out b.out⟩, ⟨e L.out⟩⟩
theorem rw2 {α : Type} {k : Kd α} {w : World} {A : Option Addr} {c : Nat} {l : List α} (h : k.C w A l.length l) (L : l.length ≤ c) : Rw k w A c l := ⟨⟨h⟩, ⟨L⟩⟩
theorem rF2 {α : Type} {d : Kd α} {e : Nat} {w w' : World} {base : Nat} {ok : Nat → Prop} {v : Value} {xs : List α} {g t g' t' : Nat} {cs cs' : Array Value} (h : d.R e w base ok v xs) (b : w.heap[g]? = some (.cells cs t (0, 0))) (b' : w.heap[g']? = some (.cells cs' t' (0, 0))) (ht : ∀ q, q ∈ e :: d.E → q ≠ t := by decide) (ht' : ∀ q, q ∈ e :: d.E → q ≠ t' := by decide)
    (f : d.R e w base (fun k => (ok k ∧ k ≠ g) ∧ k ≠ g') v xs → d.R e w' base (fun k => (ok k ∧ k ≠ g) ∧ k ≠ g') v xs := by intro h_; (with_reducible repeat (first | apply Kd.R_alloc | apply Kd.R_drewN | apply Kd.R_drew)); repeat (first | with_reducible exact h_ | (refine Kd.R_far ?_ (fun _ hk => ?_) _; rotate_left; first | exact hk.2 | exact hk.1.2))) : d.R e w' base ok v xs := Kd.R_mono (f (Kd.R_types (Kd.R_types h b ht) b' ht')) (fun _ h_ => h_.1.1)
theorem nB {p q : Prop} (a : Aside0 p) (b : Aside0 q) : p ∧ q := ⟨a.out, b.out⟩
end Go.Proofs.YthejoblnfpaojaaGreatZ
namespace Go.Proofs.YthejoblnfpaojaaGreat.P
open Go.Proofs.YthejoblnfpaojaaGreatZ Go.RowKit Go.Proofs.YthejoblnfpaojaaGreatW.PrintWords Go.Proofs.YthejoblnfpaojaaGreatW.PrintLast Go.Proofs.YthejoblnfpaojaaGreatW.PrintMore
attribute [local go_sem] max2_int min2_int max_two min_two max_three min_three max_four min_four   -- for this text's walks alone
def slices_Clone_int_int.f (l0:List Int):Option (List Int):=if l0.length≤17592186044416 then some l0 else none
theorem slices_Clone_int_int.calls (A0:Option Addr) (c0:Nat) (l0:List Int) (r:List Int) (w:World) (hr0:Kd.C (Kd.int .i64) w A0 l0.length l0) (hc0:l0.length≤c0) (h:slices_Clone_int_int.f l0=some r) :
  Calls Tryz.prog 144 #[.slice A0 l0.length c0] w fun e w'=>∃ v0_:Value,e = .returned (v0_)∧Kd.R (Kd.int .i64) 3 w' w.heap.size (fun _=>True) v0_ r∧Below w.heap.size w w':=by
 unfold slices_Clone_int_int.f at h
 split at h
 ·rename_i hlen
  obtain rfl:=Option.some.inj h
  cases l0 with
  | nil =>
   cases A0 with
   | none=>exact(Go.Proofs.Tryz.slices_Clone_int_nil 0 c0 w).mono fun e w' ⟨he,hw⟩=>⟨_,he,Kd.R_nil _ _ _ _ _,hw ▸ Below.refl _ _⟩
   | some a=>exact(Go.Proofs.Tryz.slices_Clone_int_zero a c0 w).mono fun e w' ⟨v,he,ho,_,hb⟩=>⟨v,he,Kd.R_of_own ho (fun _ _=>trivial),hb⟩
  | cons x xs =>
   obtain⟨b,o,rfl,hb,hcell⟩:=Go.Proofs.YthejoblnfpaojaaGreatZ.C_plain hr0 (by simp)
   refine(Go.Proofs.Tryz.slices_Clone_int b o (x :: xs).length c0 (x :: xs) w (Nat.le_refl _) (by omega) (fun j hj => ?_)).mono fun e w' ⟨v,he,ho,_,hb⟩=>⟨v,he,Kd.R_of_own (by rw[List.take_length] at ho;exact ho) (fun _ _=>trivial),hb⟩
   have:=hcell j ((x :: xs)[j]'hj) (List.getElem?_eq_getElem hj)
   rw[this,List.getD_eq_getElem?_getD,List.getElem?_eq_getElem hj]
   rfl
 simp at h
def Xe.f (a0:Int) (a1:Int) (a2:Int):Option (Bool):=if a0 ≥ a1 then (some (decide (a0≤a2))) else (some false)
theorem Xe.calls (a0:Int) (a1:Int) (a2:Int) (r:Bool) (w:World) (H:Xe.f a0 a1 a2=some r) :
  Calls Tryz.prog 88 #[.int .i64 a0,.int .i64 a1,.int .i64 a2] w fun e w'=>e = .returned (.bool r)∧Drawn0 w w':=by
 unfold Xe.f at H
 go_enter Tryz.func88,Tryz.ntmps88
 revert H;refine iP ?_ ?_<;>intro c4b0 H
 ·obtain rfl:=sI H
  go_wp2
  go_ret
  exact⟨by first | rfl | (simp;done) | (simp[*];done),dX⟩
 obtain rfl:=sI H
 go_wp2
 go_ret
 exact⟨by first | rfl | (simp;done) | (simp[*];done),dX⟩
def XN.l0:Nat→Int→List (S63)→Int→Int→Option (Int × Int × Int × Bool)
 | 0,_,_,_,_=>none
 | k+1,x1,x9,x10,x11=>if x11<x10 then (if 0≤x11 then (if x11<(x9.length:Int) then (if ((rd_T63 x9 x11).f0)=x1 then (some ((rd_T63 x9 x11).f0,(rd_T63 x9 x11).f1,(rd_T63 x9 x11).f2,true)) else (XN.l0 k x1 x9 x10 (wrap64 (x11+1)))) else (none)) else (none)) else (some (0,0,0,false))
def XN.f (k:Nat) (a0_0:Int) (a0_1:Int) (l0_2:List (S63)) (a0_3:Int) (l0_4:List Int) (a1:Int):Option (Int × Int × Int × Bool):=XN.l0 k a1 l0_2 (l0_2.length:Int) 0
theorem XN.calls (k:Nat) (a0_0:Int) (a0_1:Int) (A0_2:Option Addr) (c0_2:Nat) (l0_2:List (S63)) (a0_3:Int) (A0_4:Option Addr) (c0_4:Nat) (l0_4:List Int) (a1:Int) (r1:Int) (r2:Int) (r3:Int) (r4:Bool) (w:World) (h0_2:Rw k63 w A0_2 c0_2 l0_2) (h0_4:Rw (Kd.int .i64) w A0_4 c0_4 l0_4) (H:XN.f k a0_0 a0_1 l0_2 a0_3 l0_4 a1=some (r1,r2,r3,r4)) :
  Calls Tryz.prog 24 #[.agg #[.int .i64 a0_0,.int .i64 a0_1,.slice A0_2 l0_2.length c0_2,.int .i64 a0_3,.slice A0_4 l0_4.length c0_4],.int .i64 a1] w fun e w'=>e = .returned (.tuple #[.agg #[.int .i64 r1,.int .i64 r2,.int .i64 r3],.bool r4])∧Below w.heap.size w w':=by
 have hu58:=Tryz.underlying58
 have hu63:=Tryz.underlying63
 obtain⟨HR0_2,HC0_2⟩:=h0_2
 obtain⟨HR0_4,HC0_4⟩:=h0_4
 have HB:=aM (Below.refl w.heap.size w)
 unfold XN.f at H
 have H':=aM H
 clear H
 go_enter Tryz.func24,Tryz.ntmps24
 go_wp2_with (first | (refine boxE 2 #[.int .i64 a0_0,.int .i64 a0_1,.slice A0_2 l0_2.length c0_2,.int .i64 a0_3,.slice A0_4 l0_4.length c0_4] 58 ?_;intro gbz1 hg wz1 hbox hb;have BKz1:=aM (hbox);have GWz1:=aG hg HB;replace HB:=aS HB hb;clear hb hbox hg) | (refine boxE 4 #[.int .i64 0,.int .i64 0,.int .i64 0] 63 ?_;intro gbz2 hg wz2 hbox hb;have BKz2:=aM (hbox);have GWz2:=aG hg HB;have NBz1:=aL hg BKz1;have NBz2:=aR hg BKz1;replace BKz1:=aB BKz1 hb;replace HB:=aS HB hb;clear hb hbox hg;have hnbz1:=nB NBz1 NBz2;have hczz1:=cZ5 BKz1.out))
 go_loopg [11] k (fun kq v11 w'=>∃ (x11_1:Int) (x103000_1:Int) (x103001_1:Int) (x103002_1:Int),v11 = .int .i64 x11_1∧Aside0 (XN.l0 kq a1 l0_2 (l0_2.length:Int) x11_1=some (r1,r2,r3,r4))∧Aside0 (kq≤k)∧Aside0 (w'.heap[gbz1]? = some (.cells #[.int .i64 a0_0,.int .i64 a0_1,(.slice A0_2 l0_2.length c0_2),.int .i64 a0_3,(.slice A0_4 l0_4.length c0_4)] 58 (0,0)))∧Aside0 (w'.heap[gbz2]? = some (.cells #[.int .i64 x103000_1,.int .i64 x103001_1,.int .i64 x103002_1] 63 (0,0)))∧Aside0 (Below w.heap.size w w'))
 case atStart=>exact⟨(0),(0),(0),(0),rS,H',⟨Nat.le_refl _⟩,⟨(bX BKz1.out)⟩,⟨(bX BKz2.out)⟩,⟨(hX HB.out)⟩⟩
 case round =>
  clear H'
  try clear hczz1
  obtain⟨x11_1,x103000_1,x103001_1,x103002_1,rfl,HA,HKy1,BKz1,BKz2,HB⟩:=hrel
  cases gk with
  | zero=>exact absurd HA.out (by simp[XN.l0])
  | succ k1 =>
   have H:=HA.out
   clear HA
   simp only[XN.l0] at H
   revert H;refine iN ?_ ?_<;>intro c7b0 H
   ·simp only[Option.some.injEq,Prod.mk.injEq] at H
    obtain⟨rfl,rfl,rfl,rfl⟩:=H
    have hnbx1:=NBz2.out
    have hncx1:=NBz1.out
    have hczx1:=cZ3 BKz2.out
    go_wp2
    refine bodyPost_ret (results_ct rfl _ _ gbz2 63 #[.int .i64 0,.int .i64 0,.int .i64 0] (0,0) _ rfl (bP BKz2.out) Tryz.underlying63 rfl (by kernel_rfl)) rfl ?_
    exact⟨rE,(hX HB.out)⟩
   replace H:=ifQ H;obtain⟨c8b0,H⟩:=H
   replace H:=ifQ H;obtain⟨c9b0,H⟩:=H
   revert H;refine eN ?_ ?_<;>intro c10b0 c10b1 H
   ·have H':=aM H
    clear H
    obtain⟨adx1,ex1,px1,qx1,hxx1⟩:=at_T63c HR0_2 HB x11_1
    cases ex1
    go_wp2_with (refine boxE 7 #[.int .i64 0,.int .i64 0,.int .i64 0] 63 ?_;intro gbx1 hg wx1 hbox hb;have BKx1:=aM (hbox);have GWx1:=aG hg HB;have GEx1:=aG hg HB;have NBx1:=aL hg BKz1;have NBx2:=aR hg BKz1;have NBx3:=aL hg BKz2;have NBx4:=aR hg BKz2;replace BKz1:=aB BKz1 hb;replace BKz2:=aB BKz2 hb;replace HB:=aS HB hb;clear hb hbox hg;have hnbx1:=NBx2.out;have hncx1:=NBx1.out;have hnbx2:=NBx4.out;have hncx2:=NBx3.out;have hczx1:=cZ3 BKx1.out)
    go_roundg k1
    case measure=>have:=HKy1.out;omega
    case rel=>exact⟨(wrap64 (x11_1+1)),(x103000_1),(x103001_1),(x103002_1),rS,H',⟨by have:=HKy1.out;omega⟩,⟨(bF BKz1.out)⟩,⟨(bF BKz2.out)⟩,⟨(hX HB.out)⟩⟩
   simp only[Option.some.injEq,Prod.mk.injEq] at H
   obtain⟨rfl,rfl,rfl,rfl⟩:=H
   obtain⟨adx1,ex1,px1,qx1,hxx1⟩:=at_T63c HR0_2 HB x11_1
   cases ex1
   go_wp2_with (refine boxE 7 #[.int .i64 0,.int .i64 0,.int .i64 0] 63 ?_;intro gbx1 hg wx1 hbox hb;have BKx1:=aM (hbox);have GWx1:=aG hg HB;have GEx1:=aG hg HB;have NBx1:=aL hg BKz1;have NBx2:=aR hg BKz1;have NBx3:=aL hg BKz2;have NBx4:=aR hg BKz2;replace BKz1:=aB BKz1 hb;replace BKz2:=aB BKz2 hb;replace HB:=aS HB hb;clear hb hbox hg;have hnbx1:=NBx2.out;have hncx1:=NBx1.out;have hnbx2:=NBx4.out;have hncx2:=NBx3.out;have hczx1:=cZ3 BKx1.out;have hnbx3:=nB NBz2 NBz1;have hczx4:=cZ3 BKz2.out)
   refine bodyPost_ret (results_ct rfl _ _ gbz2 63 #[.int .i64 ((rd_T63 l0_2 x11_1).f0),.int .i64 ((rd_T63 l0_2 x11_1).f1),.int .i64 ((rd_T63 l0_2 x11_1).f2)] (0,0) _ rfl (bP BKz2.out) Tryz.underlying63 rfl (by kernel_rfl)) rfl ?_
   exact⟨rE,(hX HB.out)⟩
def slices_Index_int_int.l0:Nat→List Int→Int→Int→Int→Option (Int)
 | 0,_,_,_,_=>none
 | k+1,x0,x1,x7,x8=>if x8<x7 then (if 0≤x8 then (if x8<(x0.length:Int) then (if x1=(rd x0 x8) then (some x8) else (slices_Index_int_int.l0 k x0 x1 x7 (wrap64 (x8+1)))) else (none)) else (none)) else (some (-1))
def slices_Index_int_int.f (k:Nat) (l0:List Int) (a1:Int):Option (Int):=slices_Index_int_int.l0 k l0 a1 (l0.length:Int) 0
theorem slices_Index_int_int.calls (k:Nat) (A0:Option Addr) (c0:Nat) (l0:List Int) (a1:Int) (r:Int) (w:World) (hr0:Kd.C (Kd.int .i64) w A0 l0.length l0) (hc0:l0.length≤c0) (H:slices_Index_int_int.f k l0 a1=some r) :
  Calls Tryz.prog 190 #[.slice A0 l0.length c0,.int .i64 a1] w fun e w'=>e = .returned (.int .i64 r)∧Drawn0 w w':=by
 have HR0:=aM hr0
 have HC0:=aM hc0
 clear hr0 hc0
 unfold slices_Index_int_int.f at H
 have H':=aM H
 clear H
 go_enter Tryz.func190,Tryz.ntmps190
 go_wp2
 go_loopg [8] k (fun kq v8 w'=>∃ (x8_1:Int),v8 = .int .i64 x8_1∧Aside0 (slices_Index_int_int.l0 kq l0 a1 (l0.length:Int) x8_1=some r)∧Aside0 (kq≤k)∧Drawn0 w w')
 case atStart=>exact⟨(0),rS,H',⟨Nat.le_refl _⟩,dX⟩
 case round =>
  clear H'
  obtain⟨x8_1,rfl,HA,HKy1,⟨my1,rfl⟩⟩:=hrel
  cases gk with
  | zero=>exact absurd HA.out (by simp[slices_Index_int_int.l0])
  | succ k1 =>
   have H:=HA.out
   clear HA
   simp only[slices_Index_int_int.l0] at H
   revert H;refine iN ?_ ?_<;>intro c3b0 H
   ·obtain rfl:=sI H
    go_wp2
    go_ret
    exact⟨by first | rfl | (simp;done) | (simp[*];done),dX⟩
   replace H:=ifQ H;obtain⟨c4b0,H⟩:=H
   replace H:=ifQ H;obtain⟨c5b0,H⟩:=H
   revert H;refine eP ?_ ?_<;>intro c6b0 c6b1 H
   ·obtain rfl:=sI H
    have px1:0≤(x8_1:Int):=odA
    have qx1:x8_1<(l0.length:Int):=odA
    obtain⟨adx1,ex1,hxx1⟩:=Kd.at_int HR0.out x8_1 px1 qx1
    cases ex1
    replace px1:=eq_true px1
    replace qx1:=eq_true qx1
    go_wp2
    go_ret
    exact⟨by first | rfl | (simp;done) | (simp[*];done),dX⟩
   have H':=aM H
   clear H
   have px1:0≤(x8_1:Int):=odA
   have qx1:x8_1<(l0.length:Int):=odA
   obtain⟨adx1,ex1,hxx1⟩:=Kd.at_int HR0.out x8_1 px1 qx1
   cases ex1
   replace px1:=eq_true px1
   replace qx1:=eq_true qx1
   go_wp2
   go_roundg k1
   case measure=>have:=HKy1.out;omega
   case rel=>exact⟨(wrap64 (x8_1+1)),rS,H',⟨by have:=HKy1.out;omega⟩,dX⟩
end Go.Proofs.YthejoblnfpaojaaGreat.P
namespace Go.Proofs.YthejoblnfpaojaaGreat.P
open Go.Proofs.YthejoblnfpaojaaGreatZ Go.RowKit Go.Proofs.YthejoblnfpaojaaGreatW.PrintWords Go.Proofs.YthejoblnfpaojaaGreatW.PrintLast Go.Proofs.YthejoblnfpaojaaGreatW.PrintMore
attribute [local go_sem] max2_int min2_int max_two min_two max_three min_three max_four min_four   -- for this text's walks alone
attribute [local go_sem high] eqA78
def XU.l0:Nat→Int→Int→Int→Int→List (S80)→Int→Int→List (S51)→List (S58)→List (S108)→Int→List (S80)→List Int→List Int→Int→List (S78)→Int→Bool→List (S152)→List (S154)→Option (Bool)
 | 0,_,_,_,_,_,_,_,_,_,_,_,_,_,_,_,_,_,_,_,_=>none
 | k+1,x1,x6,x7,x8,x17,x18,x19,x102000,x102001,x102002,x102003,x102004,x102005,x102006,x102007,x104000,x104001,x104002,x104003,x104004=>if x19<x18 then (if 0≤x19 then (if x19<(x17.length:Int) then (if ((rd_T80 x17 x19).f0)=x1 then (if ((rd_T80 x17 x19).f4) ≥ 0 then (XU.l0 k x1 x19 (wrap64 (x7+1)) x8 x17 x18 (wrap64 (x19+1)) x102000 x102001 x102002 x102003 x102004 x102005 x102006 x102007 x104000 x104001 x104002 x104003 x104004) else (XU.l0 k x1 x19 x7 (wrap64 (x8+1)) x17 x18 (wrap64 (x19+1)) x102000 x102001 x102002 x102003 x102004 x102005 x102006 x102007 x104000 x104001 x104002 x104003 x104004)) else (XU.l0 k x1 x6 x7 x8 x17 x18 (wrap64 (x19+1)) x102000 x102001 x102002 x102003 x102004 x102005 x102006 x102007 x104000 x104001 x104002 x104003 x104004)) else (none)) else (none)) else (if x7=x104001 then (if x104002=true then (if x6 ≥ 0 then (if x8=1 then (if 0≤x6 then (if x6<(x102004.length:Int) then (if ((rd_T80 x102004 x6).f4)=(-1) then (if 0≤x104001 then (if x104001<(x104000.length:Int) then (some (((rd_T80 x102004 x6).f1.f0) == ((rd_T78 x104000 x104001).f0) && (((rd_T80 x102004 x6).f1.f1) == ((rd_T78 x104000 x104001).f1) && (((rd_T80 x102004 x6).f1.f2) == ((rd_T78 x104000 x104001).f2))))) else (none)) else (none)) else (some false)) else (none)) else (none)) else (some false)) else (some false)) else (some (x8 == 0))) else (some false))
def XU.f (k:Nat) (l0_0:List (S51)) (l0_1:List (S58)) (l0_2:List (S108)) (a0_3:Int) (l0_4:List (S80)) (l0_5:List Int) (l0_6:List Int) (a0_7:Int) (a1:Int):Option (Bool):=if 0≤a1 then (if a1<(l0_2.length:Int) then (XU.l0 k a1 (-1) 0 0 l0_4 (l0_4.length:Int) 0 l0_0 l0_1 l0_2 a0_3 l0_4 l0_5 l0_6 a0_7 ((rd_T108 l0_2 a1).f0) ((rd_T108 l0_2 a1).f1) ((rd_T108 l0_2 a1).f2) ((rd_T108 l0_2 a1).f3) ((rd_T108 l0_2 a1).f4)) else (none)) else (none)
theorem XU.calls (k:Nat) (A0_0:Option Addr) (c0_0:Nat) (l0_0:List (S51)) (A0_1:Option Addr) (c0_1:Nat) (l0_1:List (S58)) (A0_2:Option Addr) (c0_2:Nat) (l0_2:List (S108)) (a0_3:Int) (A0_4:Option Addr) (c0_4:Nat) (l0_4:List (S80)) (A0_5:Option Addr) (c0_5:Nat) (l0_5:List Int) (A0_6:Option Addr) (c0_6:Nat) (l0_6:List Int) (a0_7:Int) (a1:Int) (r:Bool) (w:World) (h0_0:Rw k51 w A0_0 c0_0 l0_0) (h0_1:Rw k58 w A0_1 c0_1 l0_1) (h0_2:Rw k108 w A0_2 c0_2 l0_2) (h0_4:Rw k80 w A0_4 c0_4 l0_4) (h0_5:Rw (Kd.int .i64) w A0_5 c0_5 l0_5) (h0_6:Rw (Kd.int .i64) w A0_6 c0_6 l0_6) (H:XU.f k l0_0 l0_1 l0_2 a0_3 l0_4 l0_5 l0_6 a0_7 a1=some r) :
  Calls Tryz.prog 92 #[.agg #[.slice A0_0 l0_0.length c0_0,.slice A0_1 l0_1.length c0_1,.slice A0_2 l0_2.length c0_2,.int .i64 a0_3,.slice A0_4 l0_4.length c0_4,.slice A0_5 l0_5.length c0_5,.slice A0_6 l0_6.length c0_6,.int .i64 a0_7],.int .i64 a1] w fun e w'=>e = .returned (.bool r)∧Below w.heap.size w w':=by
 have hu37:=Tryz.underlying37
 have hu108:=Tryz.underlying108
 have hu80:=Tryz.underlying80
 have hu78:=Tryz.underlying78
 obtain⟨HR0_0,HC0_0⟩:=h0_0
 obtain⟨HR0_1,HC0_1⟩:=h0_1
 obtain⟨HR0_2,HC0_2⟩:=h0_2
 obtain⟨HR0_4,HC0_4⟩:=h0_4
 obtain⟨HR0_5,HC0_5⟩:=h0_5
 obtain⟨HR0_6,HC0_6⟩:=h0_6
 have HB:=aM (Below.refl w.heap.size w)
 unfold XU.f at H
 replace H:=ifQ H;obtain⟨c3b0,H⟩:=H
 replace H:=ifQ H;obtain⟨c4b0,H⟩:=H
 have H':=aM H
 clear H
 go_enter Tryz.func92,Tryz.ntmps92
 go_wp2_with (first | (refine boxE 2 #[.slice A0_0 l0_0.length c0_0,.slice A0_1 l0_1.length c0_1,.slice A0_2 l0_2.length c0_2,.int .i64 a0_3,.slice A0_4 l0_4.length c0_4,.slice A0_5 l0_5.length c0_5,.slice A0_6 l0_6.length c0_6,.int .i64 a0_7] 37 ?_;intro gbz1 hg wz1 hbox hb;have BKz1:=aM (hbox);have GWz1:=aG hg HB;have GEz1:=aG hg HB;replace HB:=aS HB hb;clear hb hbox hg;have hczz1:=cZ8 BKz1.out;have pz1:0≤(a1:Int):=odA;have qz1:a1<(l0_2.length:Int):=odA;obtain⟨adz1,Az1,cz1,Az2,cz2,Az3,cz3,ez1,hxz1,hxz2,hxz3,hxz4,hxz5,hlz1,hiz1,hlz2,hiz2,hlz3,hiz3⟩:=at_T108 HR0_2.out a1 pz1 qz1;cases ez1;replace hxz1:=bc HB.out hxz1;replace hxz2:=bc HB.out hxz2;replace hxz3:=bc HB.out hxz3;replace hxz4:=bc HB.out hxz4;replace hxz5:=bc HB.out hxz5;have HRz1:=aM hiz1;have HCz1:=aM hlz1;clear hiz1 hlz1;have HRz2:=aM hiz2;have HCz2:=aM hlz2;clear hiz2 hlz2;have HRz3:=aM hiz3;have HCz3:=aM hlz3;clear hiz3 hlz3;replace pz1:=eq_true pz1;replace qz1:=eq_true qz1) | (refine boxE 5 #[.slice none 0 0,.int .i64 0,.bool false,.slice none 0 0,.slice none 0 0] 108 ?_;intro gbz2 hg wz2 hbox hb;have BKz2:=aM (hbox);have GWz2:=aG hg HB;have GEz2:=aG hg HB;have NBz1:=aL hg BKz1;have NBz2:=aR hg BKz1;replace BKz1:=aB BKz1 hb;replace HB:=aS HB hb;clear hb hbox hg;have hnbz1:=NBz2.out;have hncz1:=NBz1.out;have hczz9:=cZ5 BKz2.out;have hczz14:=cZ8 BKz1.out))
 repeat (go_quiet (fail);try go_wp2_with (first | ((with_reducible refine gate_dst (N:=2) rfl ?_);refine boxF 2 #[.slice A0_0 l0_0.length c0_0,.slice A0_1 l0_1.length c0_1,.slice A0_2 l0_2.length c0_2,.int .i64 a0_3,.slice A0_4 l0_4.length c0_4,.slice A0_5 l0_5.length c0_5,.slice A0_6 l0_6.length c0_6,.int .i64 a0_7] 37 ?_;intro gbz1 hg wz1 hbox hb;have BKz1:=aM (hbox);have GWz1:=aG hg HB;have GEz1:=aG hg HB;replace HB:=aS HB hb;clear hb hbox hg;have hczz1:=cZ8 BKz1.out;have pz1:0≤(a1:Int):=odA;have qz1:a1<(l0_2.length:Int):=odA;obtain⟨adz1,Az1,cz1,Az2,cz2,Az3,cz3,ez1,hxz1,hxz2,hxz3,hxz4,hxz5,hlz1,hiz1,hlz2,hiz2,hlz3,hiz3⟩:=at_T108 HR0_2.out a1 pz1 qz1;cases ez1;replace hxz1:=bc HB.out hxz1;replace hxz2:=bc HB.out hxz2;replace hxz3:=bc HB.out hxz3;replace hxz4:=bc HB.out hxz4;replace hxz5:=bc HB.out hxz5;have HRz1:=aM hiz1;have HCz1:=aM hlz1;clear hiz1 hlz1;have HRz2:=aM hiz2;have HCz2:=aM hlz2;clear hiz2 hlz2;have HRz3:=aM hiz3;have HCz3:=aM hlz3;clear hiz3 hlz3;replace pz1:=eq_true pz1;replace qz1:=eq_true qz1) | ((with_reducible refine gate_dst (N:=5) rfl ?_);refine boxF 5 #[.slice none 0 0,.int .i64 0,.bool false,.slice none 0 0,.slice none 0 0] 108 ?_;intro gbz2 hg wz2 hbox hb;have BKz2:=aM (hbox);have GWz2:=aG hg HB;have GEz2:=aG hg HB;have NBz1:=aL hg BKz1;have NBz2:=aR hg BKz1;replace BKz1:=aB BKz1 hb;replace HB:=aS HB hb;clear hb hbox hg;have hnbz1:=NBz2.out;have hncz1:=NBz1.out;have hczz9:=cZ5 BKz2.out;have hczz14:=cZ8 BKz1.out)))
 go_loopg [6,7,8,19] k (fun kq v6 v7 v8 v19 w'=>∃ (x6_1:Int) (x7_1:Int) (x8_1:Int) (x19_1:Int),v6 = .int .i64 x6_1∧v7 = .int .i64 x7_1∧v8 = .int .i64 x8_1∧v19 = .int .i64 x19_1∧Aside0 (XU.l0 kq a1 x6_1 x7_1 x8_1 l0_4 (l0_4.length:Int) x19_1 l0_0 l0_1 l0_2 a0_3 l0_4 l0_5 l0_6 a0_7 ((rd_T108 l0_2 a1).f0) ((rd_T108 l0_2 a1).f1) ((rd_T108 l0_2 a1).f2) ((rd_T108 l0_2 a1).f3) ((rd_T108 l0_2 a1).f4)=some r)∧Aside0 (kq≤k)∧Aside0 (w'.heap[gbz1]? = some (.cells #[(.slice A0_0 l0_0.length c0_0),(.slice A0_1 l0_1.length c0_1),(.slice (some adz1) l0_2.length c0_2),.int .i64 a0_3,(.slice A0_4 l0_4.length c0_4),(.slice A0_5 l0_5.length c0_5),(.slice A0_6 l0_6.length c0_6),.int .i64 a0_7] 37 (0,0)))∧Aside0 (w'.heap[gbz2]? = some (.cells #[(.slice Az1 ((rd_T108 l0_2 a1).f0).length cz1),.int .i64 ((rd_T108 l0_2 a1).f1),.bool ((rd_T108 l0_2 a1).f2),(.slice Az2 ((rd_T108 l0_2 a1).f3).length cz2),(.slice Az3 ((rd_T108 l0_2 a1).f4).length cz3)] 108 (0,0)))∧Aside0 (Below w.heap.size w w'))
 case atStart=>exact⟨((-1)),(0),(0),(0),rS,rS,rS,rS,H',⟨Nat.le_refl _⟩,⟨(bF BKz1.out)⟩,⟨(bP BKz2.out)⟩,⟨(hX HB.out)⟩⟩
 case round =>
  clear H'
  try clear c3b0
  try clear c4b0
  try clear hczz14
  try clear hczz1
  try clear hczz9
  try clear hxz1
  try clear hxz2
  try clear hxz3
  try clear hxz4
  try clear hxz5
  try clear pz1
  try clear qz1
  obtain⟨x6_1,x7_1,x8_1,x19_1,rfl,rfl,rfl,rfl,HA,HKy1,BKz1,BKz2,HB⟩:=hrel
  cases gk with
  | zero=>exact absurd HA.out (by simp[XU.l0])
  | succ k1 =>
   have H:=HA.out
   clear HA
   simp only[XU.l0] at H
   revert H;refine iP ?_ ?_<;>intro c11b0 H
   ·replace H:=ifP H;obtain⟨c12,H⟩:=H
    have c12b0:=decide_eq_true c12
    clear c12
    replace H:=ifQ H;obtain⟨c13b0,H⟩:=H
    obtain⟨adx1,Ax1,cx1,ex1,px1,qx1,hxx1,HCx1,HRx1⟩:=at_T80c HR0_4 HB x19_1
    cases ex1
    go_wp2_with (refine boxE 10 #[.int .i64 0,.int .i64 0,.int .i64 0,.int .i64 0,.int .i64 0,.int .i64 0,.int .i64 0,.int .i64 0,.slice none 0 0] 80 ?_;intro gbx1 hg wx1 hbox hb;have BKx1:=aM (hbox);have GWx1:=aG hg HB;have GEx1:=aG hg HB;have NBx1:=aL hg BKz1;have NBx2:=aR hg BKz1;have NBx3:=aL hg BKz2;have NBx4:=aR hg BKz2;replace BKz1:=aB BKz1 hb;replace BKz2:=aB BKz2 hb;replace HB:=aS HB hb;clear hb hbox hg;have hnbx1:=NBx2.out;have hncx1:=NBx1.out;have hnbx2:=NBx4.out;have hncx2:=NBx3.out;have hczx1:=cZ9 BKx1.out;refine Stop.out ?_)
    refine⟨?_⟩
    revert H;refine eN ?_ ?_<;>intro c14b0 c14b1 H
    ·have H':=aM H
     clear H
     go_wp2
     repeat (go_quiet (fail);try go_wp2_with ((with_reducible refine gate_dst (N:=10) rfl ?_);refine boxF 10 #[.int .i64 0,.int .i64 0,.int .i64 0,.int .i64 0,.int .i64 0,.int .i64 0,.int .i64 0,.int .i64 0,.slice none 0 0] 80 ?_;intro gbx1 hg wx1 hbox hb;have BKx1:=aM (hbox);have GWx1:=aG hg HB;have GEx1:=aG hg HB;have NBx1:=aL hg BKz1;have NBx2:=aR hg BKz1;have NBx3:=aL hg BKz2;have NBx4:=aR hg BKz2;replace BKz1:=aB BKz1 hb;replace BKz2:=aB BKz2 hb;replace HB:=aS HB hb;clear hb hbox hg;have hnbx1:=NBx2.out;have hncx1:=NBx1.out;have hnbx2:=NBx4.out;have hncx2:=NBx3.out;have hczx1:=cZ9 BKx1.out))
     go_roundg k1
     case measure=>have:=HKy1.out;omega
     case rel=>exact⟨(x6_1),(x7_1),(x8_1),(wrap64 (x19_1+1)),rS,rS,rS,rS,H',⟨by have:=HKy1.out;omega⟩,⟨(bF BKz1.out)⟩,⟨(bF BKz2.out)⟩,⟨(hX HB.out)⟩⟩
    revert H;refine iP ?_ ?_<;>intro c15b0 H
    ·have H':=aM H
     clear H
     go_wp2
     repeat (go_quiet (fail);try go_wp2_with ((with_reducible refine gate_dst (N:=10) rfl ?_);refine boxF 10 #[.int .i64 0,.int .i64 0,.int .i64 0,.int .i64 0,.int .i64 0,.int .i64 0,.int .i64 0,.int .i64 0,.slice none 0 0] 80 ?_;intro gbx1 hg wx1 hbox hb;have BKx1:=aM (hbox);have GWx1:=aG hg HB;have GEx1:=aG hg HB;have NBx1:=aL hg BKz1;have NBx2:=aR hg BKz1;have NBx3:=aL hg BKz2;have NBx4:=aR hg BKz2;replace BKz1:=aB BKz1 hb;replace BKz2:=aB BKz2 hb;replace HB:=aS HB hb;clear hb hbox hg;have hnbx1:=NBx2.out;have hncx1:=NBx1.out;have hnbx2:=NBx4.out;have hncx2:=NBx3.out;have hczx1:=cZ9 BKx1.out))
     go_roundg k1
     case measure=>have:=HKy1.out;omega
     case rel=>exact⟨(x19_1),(wrap64 (x7_1+1)),(x8_1),(wrap64 (x19_1+1)),rS,rS,rS,rS,H',⟨by have:=HKy1.out;omega⟩,⟨(bF BKz1.out)⟩,⟨(bF BKz2.out)⟩,⟨(hX HB.out)⟩⟩
    have H':=aM H
    clear H
    go_wp2
    repeat (go_quiet (fail);try go_wp2_with ((with_reducible refine gate_dst (N:=10) rfl ?_);refine boxF 10 #[.int .i64 0,.int .i64 0,.int .i64 0,.int .i64 0,.int .i64 0,.int .i64 0,.int .i64 0,.int .i64 0,.slice none 0 0] 80 ?_;intro gbx1 hg wx1 hbox hb;have BKx1:=aM (hbox);have GWx1:=aG hg HB;have GEx1:=aG hg HB;have NBx1:=aL hg BKz1;have NBx2:=aR hg BKz1;have NBx3:=aL hg BKz2;have NBx4:=aR hg BKz2;replace BKz1:=aB BKz1 hb;replace BKz2:=aB BKz2 hb;replace HB:=aS HB hb;clear hb hbox hg;have hnbx1:=NBx2.out;have hncx1:=NBx1.out;have hnbx2:=NBx4.out;have hncx2:=NBx3.out;have hczx1:=cZ9 BKx1.out))
    go_roundg k1
    case measure=>have:=HKy1.out;omega
    case rel=>exact⟨(x19_1),(x7_1),(wrap64 (x8_1+1)),(wrap64 (x19_1+1)),rS,rS,rS,rS,H',⟨by have:=HKy1.out;omega⟩,⟨(bF BKz1.out)⟩,⟨(bF BKz2.out)⟩,⟨(hX HB.out)⟩⟩
   revert H;refine eN ?_ ?_<;>intro c28b0 c28b1 H
   ·obtain rfl:=sI H
    have hnbx1:=NBz2.out
    have hncx1:=NBz1.out
    have hczx1:=cZ5 BKz2.out
    go_wp2
    repeat (go_quiet (fail);try go_wp2)
    go_ret
    exact⟨rE,(hX HB.out)⟩
   by_cases c29:((rd_T108 l0_2 a1).f2)=true
   case neg =>
    rw[if_neg c29] at H
    have c29b0:((rd_T108 l0_2 a1).f2)=false:=by simpa using c29
    clear c29
    obtain rfl:=sI H
    have hnbx1:=NBz2.out
    have hncx1:=NBz1.out
    have hczx1:=cZ5 BKz2.out
    go_wp2
    repeat (go_quiet (fail);try go_wp2)
    go_ret
    exact⟨rE,(hX HB.out)⟩
   rw[if_pos c29] at H
   have c29b0:((rd_T108 l0_2 a1).f2)=true:=c29
   clear c29
   revert H;refine iN ?_ ?_<;>intro c30b0 H
   ·obtain rfl:=sI H
    have hnbx1:=NBz2.out
    have hncx1:=NBz1.out
    have hczx1:=cZ5 BKz2.out
    go_wp2
    repeat (go_quiet (fail);try go_wp2)
    go_ret
    exact⟨rE,(hX HB.out)⟩
   revert H;refine eN ?_ ?_<;>intro c31b0 c31b1 H
   ·obtain rfl:=sI H
    have hnbx1:=NBz2.out
    have hncx1:=NBz1.out
    have hczx1:=cZ5 BKz2.out
    go_wp2
    repeat (go_quiet (fail);try go_wp2)
    go_ret
    exact⟨rE,(hX HB.out)⟩
   replace H:=ifQ H;obtain⟨c32b0,H⟩:=H
   replace H:=ifQ H;obtain⟨c33b0,H⟩:=H
   revert H;refine eN ?_ ?_<;>intro c34b0 c34b1 H
   ·obtain rfl:=sI H
    have hnbx1:=NBz2.out
    have hncx1:=NBz1.out
    have hczx1:=cZ5 BKz2.out
    have hczx6:=cZ8 BKz1.out
    obtain⟨adx1,Ax1,cx1,ex1,px1,qx1,hxx1,HCx1,HRx1⟩:=at_T80c HR0_4 HB x6_1
    cases ex1
    go_wp2
    repeat (go_quiet (fail);try go_wp2)
    go_ret
    exact⟨rE,(hX HB.out)⟩
   replace H:=ifQ H;obtain⟨c35b0,H⟩:=H
   replace H:=ifQ H;obtain⟨c36b0,H⟩:=H
   obtain rfl:=sI H
   have hnbx1:=NBz2.out
   have hncx1:=NBz1.out
   have hczx1:=cZ5 BKz2.out
   have hczx6:=cZ8 BKz1.out
   obtain⟨adx1,Ax1,cx1,ex1,px1,qx1,⟨hxx1,hxx2,hxx3,hxx4,hxx5,hxx6,hxx7,hxx8,hxx9⟩,HCx1,HRx1⟩:=at_T80c HR0_4 HB x6_1
   cases ex1
   obtain⟨adx2,Ax2,cx2,ex2,px2,qx2,⟨hxx10,hxx11,hxx12,hxx13,hxx14,hxx15,hxx16,hxx17,hxx18⟩,HCx2,HRx2⟩:=at_T80c HR0_4 HB x6_1
   obtain rfl:adx1=adx2:=(by injection ex2)
   have ea_:=Option.some.inj (hxx9.symm.trans hxx18)
   injection ea_ with ea_ en_ ec_
   subst ea_
   subst ec_
   clear en_
   obtain⟨adx3,ex3,px3,qx3,hxx19⟩:=at_T78c HRz1 HB ((rd_T108 l0_2 a1).f1)
   cases ex3
   go_wp2
   repeat (go_quiet (fail);try go_wp2)
   go_ret
   exact⟨rE,(hX HB.out)⟩
end Go.Proofs.YthejoblnfpaojaaGreat.P
namespace Go.Proofs.YthejoblnfpaojaaGreat.P
open Go.Proofs.YthejoblnfpaojaaGreatZ Go.RowKit Go.Proofs.YthejoblnfpaojaaGreatW.PrintWords Go.Proofs.YthejoblnfpaojaaGreatW.PrintLast Go.Proofs.YthejoblnfpaojaaGreatW.PrintMore
attribute [local go_sem] max2_int min2_int max_two min_two max_three min_three max_four min_four   -- for this text's walks alone
def Xaf.f (a0:Bool) (a1:Int):Option (Int):=if a0=true then (some a1) else (some (-1))
theorem Xaf.calls (a0:Bool) (a1:Int) (r:Int) (w:World) (H:Xaf.f a0 a1=some r) :
  Calls Tryz.prog 170 #[.bool a0,.int .i64 a1] w fun e w'=>e = .returned (.int .i64 r)∧Drawn0 w w':=by
 unfold Xaf.f at H
 go_enter Tryz.func170,Tryz.ntmps170
 by_cases c3:a0=true
 ·subst c3
  rw[if_pos rfl] at H
  obtain rfl:=sI H
  go_wp2
  go_ret
  exact⟨by first | rfl | (simp;done) | (simp[*];done),dX⟩
 replace c3:=Bool.eq_false_iff.mpr c3
 subst c3
 rw[if_neg nft] at H
 obtain rfl:=sI H
 go_wp2
 go_ret
 exact⟨by first | rfl | (simp;done) | (simp[*];done),dX⟩
def Xaq.f  : Option (Int):=some 13
theorem Xaq.calls  (r:Int) (w:World) (H:Xaq.f  = some r) :
  Calls Tryz.prog 111 #[] w fun e w'=>e = .returned (.int .i64 r)∧Drawn0 w w':=by
 unfold Xaq.f at H
 obtain rfl:=sI H
 go_enter Tryz.func111,Tryz.ntmps111
 go_wp2
 go_ret
 exact⟨by first | rfl | (simp;done) | (simp[*];done),dX⟩
def Xab.f (l0_0:List Int) (a0_1:Int):Option (List Int × Int):=(slices_Clone_int_int.f l0_0).bind fun t103=>(some (t103,a0_1))
theorem Xab.calls (A0_0:Option Addr) (c0_0:Nat) (l0_0:List Int) (a0_1:Int) (r1:List Int) (r2:Int) (w:World) (h0_0:Rw (Kd.int .i64) w A0_0 c0_0 l0_0) (h:Xab.f l0_0 a0_1=some (r1,r2)) :
  Calls Tryz.prog 78 #[.agg #[.slice A0_0 l0_0.length c0_0,.int .i64 a0_1]] w fun e w'=>∃ v0_:Value,e = .returned (.agg #[v0_,.int .i64 r2])∧Kd.R (Kd.int .i64) 3 w' w.heap.size (fun _=>True) v0_ r1∧Below w.heap.size w w':=by
 have hu26:=Tryz.underlying26
 obtain⟨HR0_0,HC0_0⟩:=h0_0
 have HB:=aM (Below.refl w.heap.size w)
 have H:=h
 unfold Xab.f at H
 clear h
 replace H:=bE H;obtain⟨t103,A2,H⟩:=H
 simp only[Option.some.injEq,Prod.mk.injEq] at H
 obtain⟨rfl,rfl⟩:=H
 go_enter Tryz.func78,Tryz.ntmps78
 try go_wp2_with (first | (refine boxE 1 #[.slice A0_0 l0_0.length c0_0,.int .i64 a0_1] 26 ?_;intro gbz1 hg wz1 hbox hb;have BKz1:=aM (hbox);have GWz1:=aG hg HB;replace HB:=aS HB hb;clear hb hbox hg) | (refine boxE 2 #[.slice none 0 0,.int .i64 0] 26 ?_;intro gbz2 hg wz2 hbox hb;have BKz2:=aM (hbox);have GWz2:=aG hg HB;have NBz1:=aL hg BKz1;have NBz2:=aR hg BKz1;replace BKz1:=aB BKz1 hb;replace HB:=aS HB hb;clear hb hbox hg))
 replace BKz1:=aM (blk_drew BKz1.out)
 replace BKz2:=aM (blk_drew BKz2.out)
 replace HB:=aM (below_drew1 HB.out)
 refine start_ (n:=7) (S:=fun w'=>w'.cell? ⟨gbz1,0,none⟩=some (.slice A0_0 l0_0.length c0_0)∧w'.cell? ⟨gbz1,1,none⟩=some (.int .i64 a0_1)) (ds:=[]) (bm 7 0) (by kernel_rfl) rfl (by kernel_rfl) ⟨cK BKz1.out 0,cK BKz1.out 1⟩ (fun hHeld => ?_)
 generalize wz2.drew=wz3 at BKz1 BKz2 HB hHeld ⊢
 refine pK 0 3 (bm 7 1) ?_
 refine pK 3 6 (bm 7 9) ?_
 refine tK 1 4 (bm 7 11) hHeld ?_
 refine tK 4 7 (bm 7 27) hHeld ?_
 refine oK 2 (some 5) (bm 7 31) (fun K hK => ?_)
 refine goesN Tryz.func144 #[.slice A0_0 l0_0.length c0_0] ?_
 refine(slices_Clone_int_int.calls _ _ l0_0 t103 _ (cC HR0_0.out HB.out) HC0_0.out A2.out).mono ?_
 rintro e wz4 ⟨vz1,rfl,hoz1,hb⟩
 refine⟨_,rfl,?_⟩
 have HOz1:=aM (Kd.R_lower hoz1 (below_size (hX HB.out)))
 replace BKz1:=aB BKz1 hb
 replace BKz2:=aB BKz2 hb
 replace HB:=aS HB hb
 (try clear hb)
 (try clear hk)
 (try clear hoz1)
 obtain⟨Aoz1,coz1,eoz1⟩:=Kd.R_slice HOz1.out
 (first | subst eoz1 | (injection eoz1 with f1_ f2_ f3_;have fz1:=f1_.symm;have fz2:=f3_.symm;clear f1_ f2_ f3_;subst fz1;subst fz2))
 refine hK.out _ _ ⟨cK BKz1.out 0,cK BKz1.out 1⟩ (fun hHeld => ?_)
 clear hK K
 refine nZ 5 ?_
 refine pK 5 8 (bm 7 63) ?_
 refine oK 6 none (bm 7 127) (fun K hK => ?_)
 have hsz1:wz4.cell? ⟨gbz2,0,none⟩=some (.slice none 0 0):=(blk_cell BKz2.out 0).trans rfl
 have hfsz1:=blk_frozen BKz2.out 0
 have hnsz1:=NBz1.out
 have hmsz1:=NBz2.out
 have hsz2:wz4.cell? ⟨gbz2,1,none⟩=some (.int .i64 0):=(blk_cell BKz2.out 1).trans rfl
 have hfsz2:=blk_frozen BKz2.out 1
 have hnsz2:=NBz1.out
 have hmsz2:=NBz2.out
 refine skip_ (w1:=?_) (by rfl) rfl ?_ ?_
 rotate_left
 ·go_simp
  rfl
 refine hK.out _ _ ⟨(fA NBz1.out hHeld.1),(fA NBz1.out hHeld.2)⟩ (fun hHeld => ?_)
 clear hK K
 refine done_ (by kernel_rfl) ?_
 try go_wp2
 refine bodyPost_ret (results_cell_row rfl _ _ gbz2 26 #[.slice Aoz1 t103.length coz1,.int .i64 a0_1] (0,0) _ rfl (bP BKz2.out) Tryz.underlying26 rfl (by kernel_rfl)) rfl ?_
 exact⟨_,rE,(Kd.R_mono (rF HOz1.out BKz2.out) (fun _ hk=>trivial)),(hX HB.out)⟩
def XaQ.f (l0:List (S78)):Option (List (S78)):=if l0.length<5864062014805 then some l0 else none
theorem XaQ.calls (A0:Option Addr) (c0:Nat) (l0:List (S78)) (r:List (S78)) (w:World) (h0:Rw k78 w A0 c0 l0) (h:XaQ.f l0=some r) :
  Calls Tryz.prog 145 #[.slice A0 l0.length c0] w fun e w'=>∃ v0_:Value,e = .returned (v0_)∧Kd.R k78 78 w' w.heap.size (fun _=>True) v0_ r∧Below w.heap.size w w':=by
 have hr0:=h0.1.out
 have hc0:=h0.2.out
 unfold XaQ.f at h
 split at h
 ·rename_i hlen
  obtain rfl:=Option.some.inj h
  have HL:=aM hlen
  have HR0:=aM hr0
  have HB:=aM (Below.refl w.heap.size w)
  have q22:∀ (w:World) (a:Option Addr) (n c:Nat),(binOp .eql 103 (.slice a n c) (.slice none 0 0)).run Tryz.prog w = .ok (.bool a.isNone) w:=fun w a n c=>Go.Lib.run_eql_slice_nil w _ _ a n c 0 0 Tryz.underlying103
  clear h hlen
  cases A0 with
  | none =>
   have h0':l0=[]:=by
    rcases Nat.eq_zero_or_pos l0.length with h1 | h1
    ·exact List.length_eq_zero_iff.1 h1
    ·obtain⟨ad,h2,_⟩:=hr0.2.2 h1
     cases h2
   subst h0'
   clear hr0 HR0
   go_enter Tryz.func145,Tryz.ntmps145
   go_wp2
   go_ret
   exact⟨_,rfl,Kd.R_nil _ _ _ _ _,HB.out⟩
  | some ad =>
   clear hr0
   go_enter Tryz.func145,Tryz.ntmps145
   go_wp2_with (first | ((with_reducible refine gate_dst (N:=5) rfl ?_);refine Kd.R_lit k78 _ 78 ?hg (N:=5) ?hd (xs:=([]:List (S78))) (inner:=[]) (ok:=fun _=>True) (okp:=fun _=>True) ?hr ?hp (fun _ hk=>hk) trivial (Below.refl _ _) (Nat.le_refl _) (by simp) ?_;(case hd=>rfl);(case hg=>rfl);(case hr=>first | (go_simp;done) | (go_simp;rfl));(case hp=>exact(Reps.none _ _));intro v5 w1 ho hb hg_ hnew_;clear hg_ hnew_;have HO:=aM (Kd.R_lower ho (below_size (hX HB.out)));replace HB:=aS HB hb;clear ho hb) | ((with_reducible refine gate_builtin (b:=.append) (xs:=#[.tmp 5,.tmp 6]) rfl ?_);at_builtin;refine Kd.R_append_rows k78 (w0:=w) w.heap.size rfl (.tmp 5) (.tmp 6) 103 78 ((.agg #[(.int .i64 0),(.int .i64 0),(.int .i64 0)])) 24 rfl Tryz.underlying103 info78 rfl (show 0<3 by decide) (by omega) v5 [] l0 _ _ _ (fun _=>True) (fun _=>False) rfl rfl (rX HO.out) (cC HR0.out HB.out) (fun _ _ h=>h) (fun _ h=>h.elim) (fun _ _=>trivial) (hX HB.out) (below_size (hX HB.out)) (by have:=HL.out;simp only[List.length_nil];omega) ?_;intro v7 w2 ho hb hg hat;replace HO:=aM ho;replace HB:=aM hb;clear ho hb hg hat))
   go_ret
   exact⟨_,rfl,(rX HO.out),(hX HB.out)⟩
 ·simp at h
def XO.l0:Nat→Int→Int→Int→Int→List (S63)→Int→List Int→Option (Int × Int × Int × Bool)
 | 0,_,_,_,_,_,_,_=>none
 | k+1,x1,x6,x102000,x102001,x102002,x102003,x102004=>if x6<(x102002.length:Int) then (if 0≤x6 then (if ((rd_T63 x102002 x6).f0)=x1 then (some ((rd_T63 x102002 x6).f0,(rd_T63 x102002 x6).f1,(rd_T63 x102002 x6).f2,true)) else (XO.l0 k x1 (wrap64 (x6+1)) x102000 x102001 x102002 x102003 x102004)) else (none)) else (some (0,0,0,false))
def XO.f (k:Nat) (a0_0:Int) (a0_1:Int) (l0_2:List (S63)) (a0_3:Int) (l0_4:List Int) (a1:Int):Option (Int × Int × Int × Bool):=XO.l0 k a1 0 a0_0 a0_1 l0_2 a0_3 l0_4
theorem XO.calls (k:Nat) (a0_0:Int) (a0_1:Int) (A0_2:Option Addr) (c0_2:Nat) (l0_2:List (S63)) (a0_3:Int) (A0_4:Option Addr) (c0_4:Nat) (l0_4:List Int) (a1:Int) (r1:Int) (r2:Int) (r3:Int) (r4:Bool) (w:World) (h0_2:Rw k63 w A0_2 c0_2 l0_2) (h0_4:Rw (Kd.int .i64) w A0_4 c0_4 l0_4) (H:XO.f k a0_0 a0_1 l0_2 a0_3 l0_4 a1=some (r1,r2,r3,r4)) :
  Calls Tryz.prog 25 #[.agg #[.int .i64 a0_0,.int .i64 a0_1,.slice A0_2 l0_2.length c0_2,.int .i64 a0_3,.slice A0_4 l0_4.length c0_4],.int .i64 a1] w fun e w'=>e = .returned (.tuple #[.agg #[.int .i64 r1,.int .i64 r2,.int .i64 r3],.bool r4])∧Below w.heap.size w w':=by
 have hu58:=Tryz.underlying58
 have hu63:=Tryz.underlying63
 obtain⟨HR0_2,HC0_2⟩:=h0_2
 obtain⟨HR0_4,HC0_4⟩:=h0_4
 have HB:=aM (Below.refl w.heap.size w)
 unfold XO.f at H
 have H':=aM H
 clear H
 go_enter Tryz.func25,Tryz.ntmps25
 go_wp2_with (first | (refine boxE 2 #[.int .i64 a0_0,.int .i64 a0_1,.slice A0_2 l0_2.length c0_2,.int .i64 a0_3,.slice A0_4 l0_4.length c0_4] 58 ?_;intro gbz1 hg wz1 hbox hb;have BKz1:=aM (hbox);have GWz1:=aG hg HB;replace HB:=aS HB hb;clear hb hbox hg) | (refine boxE 4 #[.int .i64 0,.int .i64 0,.int .i64 0] 63 ?_;intro gbz2 hg wz2 hbox hb;have BKz2:=aM (hbox);have GWz2:=aG hg HB;have NBz1:=aL hg BKz1;have NBz2:=aR hg BKz1;replace BKz1:=aB BKz1 hb;replace HB:=aS HB hb;clear hb hbox hg))
 go_loopg [6] k (fun kq v6 w'=>∃ (x6_1:Int) (x103000_1:Int) (x103001_1:Int) (x103002_1:Int),v6 = .int .i64 x6_1∧Aside0 (XO.l0 kq a1 x6_1 a0_0 a0_1 l0_2 a0_3 l0_4=some (r1,r2,r3,r4))∧Aside0 (kq≤k)∧Aside0 (w'.heap[gbz1]? = some (.cells #[.int .i64 a0_0,.int .i64 a0_1,(.slice A0_2 l0_2.length c0_2),.int .i64 a0_3,(.slice A0_4 l0_4.length c0_4)] 58 (0,0)))∧Aside0 (w'.heap[gbz2]? = some (.cells #[.int .i64 x103000_1,.int .i64 x103001_1,.int .i64 x103002_1] 63 (0,0)))∧Aside0 (Below w.heap.size w w'))
 case atStart=>exact⟨(0),(0),(0),(0),rS,H',⟨Nat.le_refl _⟩,⟨(bX BKz1.out)⟩,⟨(bX BKz2.out)⟩,⟨(hX HB.out)⟩⟩
 case round =>
  clear H'
  obtain⟨x6_1,x103000_1,x103001_1,x103002_1,rfl,HA,HKy1,BKz1,BKz2,HB⟩:=hrel
  cases gk with
  | zero=>exact absurd HA.out (by simp[XO.l0])
  | succ k1 =>
   have H:=HA.out
   clear HA
   simp only[XO.l0] at H
   revert H;refine iN ?_ ?_<;>intro c5b0 H
   ·simp only[Option.some.injEq,Prod.mk.injEq] at H
    obtain⟨rfl,rfl,rfl,rfl⟩:=H
    have hnbx1:=NBz1.out
    have hncx1:=NBz2.out
    have hczx1:=cZ5 BKz1.out
    have hczx6:=cZ3 BKz2.out
    go_wp2
    refine bodyPost_ret (results_ct rfl _ _ gbz2 63 #[.int .i64 0,.int .i64 0,.int .i64 0] (0,0) _ rfl (bP BKz2.out) Tryz.underlying63 rfl (by kernel_rfl)) rfl ?_
    exact⟨rE,(hX HB.out)⟩
   replace H:=ifQ H;obtain⟨c6b0,H⟩:=H
   revert H;refine eN ?_ ?_<;>intro c7b0 c7b1 H
   ·have H':=aM H
    clear H
    have hnbx1:=NBz1.out
    have hncx1:=NBz2.out
    have hczx1:=cZ5 BKz1.out
    obtain⟨adx1,ex1,px1,qx1,hxx1⟩:=at_T63c HR0_2 HB x6_1
    cases ex1
    go_wp2
    go_roundg k1
    case measure=>have:=HKy1.out;omega
    case rel=>exact⟨(wrap64 (x6_1+1)),(x103000_1),(x103001_1),(x103002_1),rS,H',⟨by have:=HKy1.out;omega⟩,⟨(bX BKz1.out)⟩,⟨(bX BKz2.out)⟩,⟨(hX HB.out)⟩⟩
   simp only[Option.some.injEq,Prod.mk.injEq] at H
   obtain⟨rfl,rfl,rfl,rfl⟩:=H
   have hnbx1:=NBz1.out
   have hncx1:=NBz2.out
   have hczx1:=cZ5 BKz1.out
   obtain⟨adx1,ex1,px1,qx1,hxx1⟩:=at_T63c HR0_2 HB x6_1
   cases ex1
   obtain⟨adx2,ex2,px2,qx2,hxx4⟩:=at_T63c HR0_2 HB x6_1
   obtain rfl:adx1=adx2:=(by injection ex2)
   have hczx6:=cZ3 BKz2.out
   go_wp2
   refine bodyPost_ret (results_ct rfl _ _ gbz2 63 #[.int .i64 ((rd_T63 l0_2 x6_1).f0),.int .i64 ((rd_T63 l0_2 x6_1).f1),.int .i64 ((rd_T63 l0_2 x6_1).f2)] (0,0) _ rfl (bP BKz2.out) Tryz.underlying63 rfl (by kernel_rfl)) rfl ?_
   exact⟨rE,(hX HB.out)⟩
end Go.Proofs.YthejoblnfpaojaaGreat.P
