/- A part of the proof of the law FnExactReplay: texts of this seat, merged (words, printed functions of the program, plain lemmas). Conditions: none of its own. -/
import Derived.Test.YtmljebgideecjaaGreatP2kFnExactReplay9
set_option linter.unusedSimpArgs false
set_option linter.unusedVariables false
set_option maxHeartbeats 8000000
set_option maxRecDepth 100000
namespace Go.Proofs.YtmljebgideecjaaGreatZ
open Go.RowKit Go.Proofs.YtmljebgideecjaaGreatW.PrintWords Go.Proofs.YtmljebgideecjaaGreatW.PrintLast Go.Proofs.YtmljebgideecjaaGreatW.PrintMore
structure Rw {α:Type} (k:Kd α) (w:World) (A:Option Addr) (c:Nat) (l:List α):Prop where
 C:Aside0 (k.C w A l.length l)
 L:Aside0 (l.length≤c)
theorem rW {α:Type} {k:Kd α} {w0 w1 W0 w:World} {A:Option Addr} {c n:Nat} {l:List α} (h:Aside0 (k.C w0 A n l)) (b:Aside0 (Below w1.heap.size w1 W0)) (L:Aside0 (n≤c))
  (f:k.C w0 A n l→Below w1.heap.size w1 W0→k.C w A l.length l:=by intro h_ b_;repeat (first | exact Kd.C_below h_ b_ | exact Kd.C_below h_ (by repeat (first | (with_reducible first | exact b_ | apply below_alloc | apply pw_below_drewN | apply below_drew1 | refine below_set ?_ (Aside0.out (by assumption))) | exact b_)) | (with_reducible refine Kd.C_alloc ?_ _) | (with_reducible refine Kd.C_drewN ?_ _) | (with_reducible refine Kd.C_drew ?_)))
  (e:n≤c→l.length≤c:=by exact fun h_=>h_):Rw k w A c l:=⟨⟨f h.out b.out⟩,⟨e L.out⟩⟩
theorem rw2 {α:Type} {k:Kd α} {w:World} {A:Option Addr} {c:Nat} {l:List α} (h:k.C w A l.length l) (L:l.length≤c):Rw k w A c l:=⟨⟨h⟩,⟨L⟩⟩
theorem rF2 {α:Type} {d:Kd α} {e:Nat} {w w':World} {base:Nat} {ok:Nat→Prop} {v:Value} {xs:List α} {g t g' t':Nat} {cs cs':Array Value} (h:d.R e w base ok v xs) (b:w.heap[g]? = some (.cells cs t (0,0))) (b':w.heap[g']? = some (.cells cs' t' (0,0))) (ht:∀ q,q ∈ e :: d.E→q ≠ t:=by decide) (ht':∀ q,q ∈ e :: d.E→q ≠ t':=by decide)
  (f:d.R e w base (fun k=>(ok k∧k ≠ g)∧k ≠ g') v xs→d.R e w' base (fun k=>(ok k∧k ≠ g)∧k ≠ g') v xs:=by intro h_;(with_reducible repeat (first | apply Kd.R_alloc | apply Kd.R_drewN | apply Kd.R_drew));repeat (first | with_reducible exact h_ | (refine Kd.R_far ?_ (fun _ hk => ?_) _;rotate_left;first | exact hk.2 | exact hk.1.2))):d.R e w' base ok v xs:=Kd.R_mono (f (Kd.R_types (Kd.R_types h b ht) b' ht')) (fun _ h_=>h_.1.1)
theorem sF2 {α:Type} {d:Kd α} {e:Nat} {w w':World} {base:Nat} {ok:Nat→Prop} {v:Value} {xs:List α} {g t g' t':Nat} {cs cs':Array Value} (h:Kd.S d e w base ok v xs) (b:w.heap[g]? = some (.cells cs t (0,0))) (b':w.heap[g']? = some (.cells cs' t' (0,0))) (ht:∀ q,q ∈ e :: d.E→q ≠ t:=by decide) (ht':∀ q,q ∈ e :: d.E→q ≠ t':=by decide)
  (f:Kd.S d e w base (fun k=>(ok k∧k ≠ g)∧k ≠ g') v xs→Kd.S d e w' base (fun k=>(ok k∧k ≠ g)∧k ≠ g') v xs:=by intro h_;(with_reducible repeat (first | apply Kd.S_alloc | apply Kd.S_drewN | apply Kd.S_drew));repeat (first | with_reducible exact h_ | (refine Kd.S_far ?_ (fun _ hk => ?_) _;rotate_left;first | exact hk.2 | exact hk.1.2))):Kd.S d e w' base ok v xs:=Kd.S_mono (f (Kd.S_types (Kd.S_types h b ht) b' ht')) (fun _ h_=>h_.1.1)
theorem nB {p q:Prop} (a:Aside0 p) (b:Aside0 q):p∧q:=⟨a.out,b.out⟩
end Go.Proofs.YtmljebgideecjaaGreatZ
namespace Go.Proofs.YtmljebgideecjaaGreat.P2
open Go.Proofs.YtmljebgideecjaaGreatZ Go.RowKit Go.Proofs.YtmljebgideecjaaGreatW.PrintWords Go.Proofs.YtmljebgideecjaaGreatW.PrintLast Go.Proofs.YtmljebgideecjaaGreatW.PrintMore
attribute [local go_sem] max2_int min2_int max_two min_two max_three min_three max_four min_four   -- for this text's walks alone
def slices_Clone_int_int.f (l0:List Int):Option (List Int):=if l0.length≤17592186044416 then some l0 else none
theorem slices_Clone_int_int.calls (A0:Option Addr) (c0:Nat) (l0:List Int) (r:List Int) (w:World) (hr0:Kd.C (Kd.int .i64) w A0 l0.length l0) (hc0:l0.length≤c0) (h:slices_Clone_int_int.f l0=some r) :
  Calls Tryz.prog 121 #[.slice A0 l0.length c0] w fun e w'=>∃ v0_:Value,e = .returned (v0_)∧Kd.R (Kd.int .i64) 3 w' w.heap.size (fun _=>True) v0_ r∧Below w.heap.size w w':=by
 unfold slices_Clone_int_int.f at h
 split at h
 ·rename_i hlen
  obtain rfl:=Option.some.inj h
  cases l0 with
  | nil =>
   cases A0 with
   | none=>exact(Go.Proofs.Tryz.slices_Clone_int_nil 0 c0 w).mono fun e w' ⟨he,hw⟩=>⟨_,he,Kd.R_nil _ _ _ _ _,hw ▸ Below.refl _ _⟩
   | some a=>exact(Go.Proofs.Tryz.slices_Clone_int_zero a c0 w).mono fun e w' ⟨v,he,ho,_,hb⟩=>⟨v,he,Kd.R_of_own ho (fun _ _=>trivial),hb⟩
  | cons x xs =>
   obtain⟨b,o,rfl,hb,hcell⟩:=Go.Proofs.YtmljebgideecjaaGreatZ.C_plain hr0 (by simp)
   refine(Go.Proofs.Tryz.slices_Clone_int b o (x :: xs).length c0 (x :: xs) w (Nat.le_refl _) (by omega) (fun j hj => ?_)).mono fun e w' ⟨v,he,ho,_,hb⟩=>⟨v,he,Kd.R_of_own (by rw[List.take_length] at ho;exact ho) (fun _ _=>trivial),hb⟩
   have:=hcell j ((x :: xs)[j]'hj) (List.getElem?_eq_getElem hj)
   rw[this,List.getD_eq_getElem?_getD,List.getElem?_eq_getElem hj]
   rfl
 simp at h
def Xar.f (l0:List Int) (a1:Int):Option (Int):=if (wrap64 (a1 - (l0.length:Int)))<0 then (some (-1)) else (some (wrap64 (a1 - (l0.length:Int))))
theorem Xar.calls (A0:Option Addr) (c0:Nat) (l0:List Int) (a1:Int) (r:Int) (w:World) (h0:Rw (Kd.int .i64) w A0 c0 l0) (H:Xar.f l0 a1=some r) :
  Calls Tryz.prog 41 #[.slice A0 l0.length c0,.int .i64 a1] w fun e w'=>e = .returned (.int .i64 r)∧Drawn0 w w':=by
 obtain⟨HR0,HC0⟩:=h0
 unfold Xar.f at H
 go_enter Tryz.func41,Tryz.ntmps41
 revert H;refine iP ?_ ?_<;>intro c3b0 H
 ·obtain rfl:=sI H
  go_wp2
  go_ret
  exact⟨by first | rfl | (simp;done) | (simp[*];done),dX⟩
 obtain rfl:=sI H
 go_wp2
 go_ret
 exact⟨by first | rfl | (simp;done) | (simp[*];done),dX⟩
def Xa1.f (l0:List (S176)) (a1:Int):Option (Int):=if (wrap64 (a1 - (l0.length:Int)))<0 then (some (-1)) else (some (wrap64 (a1 - (l0.length:Int))))
theorem Xa1.calls (A0:Option Addr) (c0:Nat) (l0:List (S176)) (a1:Int) (r:Int) (w:World) (h0:Rw k176 w A0 c0 l0) (H:Xa1.f l0 a1=some r) :
  Calls Tryz.prog 88 #[.slice A0 l0.length c0,.int .i64 a1] w fun e w'=>e = .returned (.int .i64 r)∧Drawn0 w w':=by
 obtain⟨HR0,HC0⟩:=h0
 unfold Xa1.f at H
 go_enter Tryz.func88,Tryz.ntmps88
 revert H;refine iP ?_ ?_<;>intro c3b0 H
 ·obtain rfl:=sI H
  go_wp2
  go_ret
  exact⟨by first | rfl | (simp;done) | (simp[*];done),dX⟩
 obtain rfl:=sI H
 go_wp2
 go_ret
 exact⟨by first | rfl | (simp;done) | (simp[*];done),dX⟩
def XaT.f (l0:List (S224)) (a1:Int):Option (Int):=if (wrap64 (a1 - (l0.length:Int)))<0 then (some (-1)) else (some (wrap64 (a1 - (l0.length:Int))))
theorem XaT.calls (A0:Option Addr) (c0:Nat) (l0:List (S224)) (a1:Int) (r:Int) (w:World) (h0:Rw k224 w A0 c0 l0) (H:XaT.f l0 a1=some r) :
  Calls Tryz.prog 204 #[.slice A0 l0.length c0,.int .i64 a1] w fun e w'=>e = .returned (.int .i64 r)∧Drawn0 w w':=by
 obtain⟨HR0,HC0⟩:=h0
 unfold XaT.f at H
 go_enter Tryz.func204,Tryz.ntmps204
 revert H;refine iP ?_ ?_<;>intro c3b0 H
 ·obtain rfl:=sI H
  go_wp2
  go_ret
  exact⟨by first | rfl | (simp;done) | (simp[*];done),dX⟩
 obtain rfl:=sI H
 go_wp2
 go_ret
 exact⟨by first | rfl | (simp;done) | (simp[*];done),dX⟩
def XaL.f (l0:List (S204)) (a1:Int):Option (Int):=if (wrap64 (a1 - (l0.length:Int)))<0 then (some (-1)) else (some (wrap64 (a1 - (l0.length:Int))))
theorem XaL.calls (A0:Option Addr) (c0:Nat) (l0:List (S204)) (a1:Int) (r:Int) (w:World) (h0:Rw k204 w A0 c0 l0) (H:XaL.f l0 a1=some r) :
  Calls Tryz.prog 153 #[.slice A0 l0.length c0,.int .i64 a1] w fun e w'=>e = .returned (.int .i64 r)∧Drawn0 w w':=by
 obtain⟨HR0,HC0⟩:=h0
 unfold XaL.f at H
 go_enter Tryz.func153,Tryz.ntmps153
 revert H;refine iP ?_ ?_<;>intro c3b0 H
 ·obtain rfl:=sI H
  go_wp2
  go_ret
  exact⟨by first | rfl | (simp;done) | (simp[*];done),dX⟩
 obtain rfl:=sI H
 go_wp2
 go_ret
 exact⟨by first | rfl | (simp;done) | (simp[*];done),dX⟩
def XaE.f (l0:List (S206)) (a1:Int):Option (Int):=if (wrap64 (a1 - (l0.length:Int)))<0 then (some (-1)) else (some (wrap64 (a1 - (l0.length:Int))))
theorem XaE.calls (A0:Option Addr) (c0:Nat) (l0:List (S206)) (a1:Int) (r:Int) (w:World) (h0:Rw k206 w A0 c0 l0) (H:XaE.f l0 a1=some r) :
  Calls Tryz.prog 154 #[.slice A0 l0.length c0,.int .i64 a1] w fun e w'=>e = .returned (.int .i64 r)∧Drawn0 w w':=by
 obtain⟨HR0,HC0⟩:=h0
 unfold XaE.f at H
 go_enter Tryz.func154,Tryz.ntmps154
 revert H;refine iP ?_ ?_<;>intro c3b0 H
 ·obtain rfl:=sI H
  go_wp2
  go_ret
  exact⟨by first | rfl | (simp;done) | (simp[*];done),dX⟩
 obtain rfl:=sI H
 go_wp2
 go_ret
 exact⟨by first | rfl | (simp;done) | (simp[*];done),dX⟩
def Xbi.f (l0:List (S116)) (a1:Int):Option (Int):=if (wrap64 (a1 - (l0.length:Int)))<0 then (some (-1)) else (some (wrap64 (a1 - (l0.length:Int))))
theorem Xbi.calls (A0:Option Addr) (c0:Nat) (l0:List (S116)) (a1:Int) (r:Int) (w:World) (h0:Rw k116 w A0 c0 l0) (H:Xbi.f l0 a1=some r) :
  Calls Tryz.prog 62 #[.slice A0 l0.length c0,.int .i64 a1] w fun e w'=>e = .returned (.int .i64 r)∧Drawn0 w w':=by
 obtain⟨HR0,HC0⟩:=h0
 unfold Xbi.f at H
 go_enter Tryz.func62,Tryz.ntmps62
 revert H;refine iP ?_ ?_<;>intro c3b0 H
 ·obtain rfl:=sI H
  go_wp2
  go_ret
  exact⟨by first | rfl | (simp;done) | (simp[*];done),dX⟩
 obtain rfl:=sI H
 go_wp2
 go_ret
 exact⟨by first | rfl | (simp;done) | (simp[*];done),dX⟩
def XO.l0:Nat→List Int→List Int→Int→Option (List Int)
 | 0,_,_,_=>none
 | k+1,x0,x3,x4=>if x4<(x0.length:Int) then (if 0≤x4 then (if x4<(x3.length:Int) then (XO.l0 k x0 (x3.set (x4:Int).toNat (rd x0 x4)) (wrap64 (x4+1))) else (none)) else (none)) else (some x3)
def XO.f (k:Nat) (l0:List Int):Option (List Int):=if 0≤(l0.length:Int) then (if ((l0.length:Int):Int).toNat≤35184372088832 then (XO.l0 k l0 (List.replicate ((l0.length:Int):Int).toNat 0) 0) else (none)) else (none)
theorem XO.calls (k:Nat) (A0:Option Addr) (c0:Nat) (l0:List Int) (r:List Int) (w:World) (h0:Rw (Kd.int .i64) w A0 c0 l0) (H:XO.f k l0=some r) :
  Calls Tryz.prog 47 #[.slice A0 l0.length c0] w fun e w'=>∃ v0_:Value,e = .returned (v0_)∧Kd.R (Kd.int .i64) 3 w' w.heap.size (fun _=>True) v0_ r∧Below w.heap.size w w':=by
 obtain⟨HR0,HC0⟩:=h0
 have HB:=aM (Below.refl w.heap.size w)
 unfold XO.f at H
 replace H:=ifP H;obtain⟨c2,H⟩:=H
 have c2b0:=eq_true c2
 have c2b1:=decide_eq_true c2
 clear c2
 replace H:=ifP H;obtain⟨c3,H⟩:=H
 have c3b0:=eq_true c3
 have c3b1:=decide_eq_true c3
 clear c3
 obtain⟨y101,hy101⟩:∃ y_:List Int,y_=(List.replicate ((l0.length:Int):Int).toNat 0):=⟨_,rfl⟩
 replace H:(XO.l0 k l0 y101 0)=some r:=yH H hy101
 have Ny101:=aM hy101
 clear hy101
 have H':=aM H
 clear H
 go_enter Tryz.func47,Tryz.ntmps47
 go_wp2_with ((with_reducible refine gate_dst (N:=7) rfl ?_);refine Kd.R_make (Kd.int .i64) _ 3 rfl (N:=7) rfl 28 _ _ rfl (l0.length:Int) rfl rfl Tryz.underlying28 (.int .i64 0) 8 info3 rfl (by decide) (by omega) 0 (ok:=fun _=>True) (okp:=fun _=>True) rfl (fun _ hk=>hk) trivial (odA) (Nat.le_trans (Nat.mul_le_mul_right _ (odA:(l0.length:Int).toNat≤35184372088832)) (by omega)) (Below.refl _ _) (Nat.le_refl _) ?_;intro vz1 wz1 hoz1 hb hg_ hnew_;clear hg_ hnew_;(first | rw[← Ny101.out] at hoz1 | (simp only[Int.reduceToNat] at hoz1;rw[← Ny101.out] at hoz1));have HOz1:=aM (Kd.R_lower hoz1 (below_size (hX HB.out)));replace HB:=aS HB hb;clear hb hoz1)
 go_loopg [4] k (fun kq v4 w'=>∃ (x3_1:List Int) (x4_1:Int),v4 = .int .i64 x4_1∧Aside0 (XO.l0 kq l0 x3_1 x4_1=some r)∧Aside0 (kq≤k)∧Aside0 (Kd.R (Kd.int .i64) 3 w' w.heap.size (fun _=>True) vz1 x3_1)∧Aside0 (Below w.heap.size w w'))
 case atStart=>exact⟨(y101),(0),rS,H',⟨Nat.le_refl _⟩,⟨(rX HOz1.out)⟩,⟨(hX HB.out)⟩⟩
 case round =>
  clear H'
  try clear c2
  try clear c2b0
  try clear c2b1
  try clear c3
  try clear c3b0
  try clear c3b1
  obtain⟨x3_1,x4_1,rfl,HA,HKy1,HO_y1,HB⟩:=hrel
  cases gk with
  | zero=>exact absurd HA.out (by simp[XO.l0])
  | succ k1 =>
   have H:=HA.out
   clear HA
   simp only[XO.l0] at H
   revert H;refine iN ?_ ?_<;>intro c6b0 H
   ·obtain rfl:=sI H
    go_wp2
    go_ret
    exact⟨_,rE,(rX HO_y1.out),(hX HB.out)⟩
   replace H:=ifQ H;obtain⟨c7b0,H⟩:=H
   replace H:=ifQ H;obtain⟨c8b0,H⟩:=H
   obtain⟨y105,hy105⟩:∃ y_:List Int,y_=(x3_1.set (x4_1:Int).toNat (rd l0 x4_1)):=⟨_,rfl⟩
   replace H:(XO.l0 k1 l0 y105 (wrap64 (x4_1+1)))=some r:=yH H hy105
   have Ny105:=aM hy105
   clear hy105
   have H':=aM H
   clear H
   obtain⟨adx1,ex1,px1,qx1,hxx1⟩:=at_ic HR0 HB x4_1
   cases ex1
   have px2:0≤(x4_1:Int):=odA
   have qx2:(x4_1:Int)<((x3_1.length:Int):Int):=odA
   obtain⟨gox1,cox1,eox1,gbx1,glx1,clx1,HGx1⟩:=Kd.R_form HO_y1.out (by omega)
   (first | cases eox1 | (injection eox1 with ea_ en_ ec_;(first | subst ea_ | (injection ea_ with ea_;subst ea_));subst ec_;clear en_))
   have GBx1:=aM gbx1
   have GGx1:=aM HGx1
   clear gbx1 glx1 HGx1
   obtain⟨hxx2,hfx1⟩:=Kd.R_celln 0 HO_y1.out (x4_1:Int) px2 qx2
   replace px2:=eq_true px2
   replace qx2:=eq_true qx2
   have HPx1:=Kd.R_putg HO_y1.out (x4_1:Int) (rd l0 x4_1)
   go_wp2_with ((with_reducible refine gate_store (t:=3) (p:=20) rfl ?_);refine store_event (t:=3) (p:=20) (v:=?vo_wx1) (w1:=(wr.setCell ⟨gox1,(x4_1:Int).toNat,none⟩ (.int .i64 (rd l0 x4_1)))) ?hg ?ho ?hn ?hr ?_;(case ho=>rfl);(case hg=>rfl);(case hn=>rfl);(case hr=>first | (go_simp;done) | (go_simp;rfl));intro wx1 hw;have hg:wr.grownBy wx1 (some gox1):=(by rw[hw];exact HPx1.2);have hp_:Kd.R (Kd.int .i64) 3 wx1 w.heap.size (fun _=>True) (.slice (some ⟨gox1,0,none⟩) x3_1.length cox1) y105:=(by rw[hw,Ny105.out];exact HPx1.1);clear HPx1;replace HO_y1:=aM (hp_);replace HB:=aM ((by rw[hw];exact below_set (HB.out) GBx1.out:Below w.heap.size w wx1));clear hg hw hp_)
   go_roundg k1
   case measure=>have:=HKy1.out;omega
   case rel=>exact⟨(y105),(wrap64 (x4_1+1)),rS,H',⟨by have:=HKy1.out;omega⟩,⟨(rX HO_y1.out)⟩,⟨(hX HB.out)⟩⟩
def Xbk.f (a0_0:Int) (a0_1:Int) (a0_2:Int):Option (Int × Int × Int):=some (a0_0,a0_1,a0_2)
theorem Xbk.calls (a0_0:Int) (a0_1:Int) (a0_2:Int) (r1:Int) (r2:Int) (r3:Int) (w:World) (H:Xbk.f a0_0 a0_1 a0_2=some (r1,r2,r3)) :
  Calls Tryz.prog 164 #[.agg #[.int .i64 a0_0,.int .i64 a0_1,.int .i64 a0_2]] w fun e w'=>e = .returned (.agg #[.int .i64 r1,.int .i64 r2,.int .i64 r3])∧Below w.heap.size w w':=by
 have hu176:=Tryz.underlying176
 have hu140:=Tryz.underlying140
 have HB:=aM (Below.refl w.heap.size w)
 unfold Xbk.f at H
 simp only[Option.some.injEq,Prod.mk.injEq] at H
 obtain⟨rfl,rfl,rfl⟩:=H
 go_enter Tryz.func164,Tryz.ntmps164
 go_wp2_with (first | (refine boxE 1 #[.int .i64 a0_0,.int .i64 a0_1,.int .i64 a0_2] 176 ?_;intro gbz1 hg wz1 hbox hb;have BKz1:=aM (hbox);have GWz1:=aG hg HB;replace HB:=aS HB hb;clear hb hbox hg) | (refine boxE 2 #[.int .i64 0,.int .i64 0,.int .i64 0] 140 ?_;intro gbz2 hg wz2 hbox hb;have BKz2:=aM (hbox);have GWz2:=aG hg HB;have NBz1:=aL hg BKz1;have NBz2:=aR hg BKz1;replace BKz1:=aB BKz1 hb;replace HB:=aS HB hb;clear hb hbox hg) | (refine boxE 3 #[.int .i64 0,.int .i64 0,.int .i64 0] 140 ?_;intro gbz3 hg wz3 hbox hb;have BKz3:=aM (hbox);have GWz3:=aG hg HB;have NBz3:=aL hg BKz1;have NBz4:=aR hg BKz1;have NBz5:=aL hg BKz2;have NBz6:=aR hg BKz2;replace BKz1:=aB BKz1 hb;replace BKz2:=aB BKz2 hb;replace HB:=aS HB hb;clear hb hbox hg;have hnbz1:=nB NBz1 NBz2;have hnbz2:=nB NBz3 NBz4;have hczz1:=cZ3 BKz1.out;have hnbz3:=nB NBz6 NBz5;have hczz4:=cZ3 BKz3.out;have hczz7:=cZ3 BKz2.out))
 refine bodyPost_ret (results_cell_row rfl _ _ gbz2 140 #[.int .i64 a0_0,.int .i64 a0_1,.int .i64 a0_2] (0,0) _ rfl (bP BKz2.out) Tryz.underlying140 rfl (by kernel_rfl)) rfl ?_
 exact⟨rE,(hX HB.out)⟩
def Xbh.f (a0_0:Int) (a0_1:Int) (a0_2:Int):Option (Int × Int × Int):=some (a0_0,a0_1,a0_2)
theorem Xbh.calls (a0_0:Int) (a0_1:Int) (a0_2:Int) (r1:Int) (r2:Int) (r3:Int) (w:World) (H:Xbh.f a0_0 a0_1 a0_2=some (r1,r2,r3)) :
  Calls Tryz.prog 219 #[.agg #[.int .i64 a0_0,.int .i64 a0_1,.int .i64 a0_2]] w fun e w'=>e = .returned (.agg #[.int .i64 r1,.int .i64 r2,.int .i64 r3])∧Below w.heap.size w w':=by
 have hu224:=Tryz.underlying224
 have hu165:=Tryz.underlying165
 have HB:=aM (Below.refl w.heap.size w)
 unfold Xbh.f at H
 simp only[Option.some.injEq,Prod.mk.injEq] at H
 obtain⟨rfl,rfl,rfl⟩:=H
 go_enter Tryz.func219,Tryz.ntmps219
 go_wp2_with (first | (refine boxE 1 #[.int .i64 a0_0,.int .i64 a0_1,.int .i64 a0_2] 224 ?_;intro gbz1 hg wz1 hbox hb;have BKz1:=aM (hbox);have GWz1:=aG hg HB;replace HB:=aS HB hb;clear hb hbox hg) | (refine boxE 2 #[.int .i64 0,.int .i64 0,.int .i64 0] 165 ?_;intro gbz2 hg wz2 hbox hb;have BKz2:=aM (hbox);have GWz2:=aG hg HB;have NBz1:=aL hg BKz1;have NBz2:=aR hg BKz1;replace BKz1:=aB BKz1 hb;replace HB:=aS HB hb;clear hb hbox hg) | (refine boxE 3 #[.int .i64 0,.int .i64 0,.int .i64 0] 165 ?_;intro gbz3 hg wz3 hbox hb;have BKz3:=aM (hbox);have GWz3:=aG hg HB;have NBz3:=aL hg BKz1;have NBz4:=aR hg BKz1;have NBz5:=aL hg BKz2;have NBz6:=aR hg BKz2;replace BKz1:=aB BKz1 hb;replace BKz2:=aB BKz2 hb;replace HB:=aS HB hb;clear hb hbox hg;have hnbz1:=nB NBz1 NBz2;have hnbz2:=nB NBz3 NBz4;have hczz1:=cZ3 BKz1.out;have hnbz3:=nB NBz6 NBz5;have hczz4:=cZ3 BKz3.out;have hczz7:=cZ3 BKz2.out))
 refine bodyPost_ret (results_cell_row rfl _ _ gbz2 165 #[.int .i64 a0_0,.int .i64 a0_1,.int .i64 a0_2] (0,0) _ rfl (bP BKz2.out) Tryz.underlying165 rfl (by kernel_rfl)) rfl ?_
 exact⟨rE,(hX HB.out)⟩
def Xbl.f (a0_0:Int) (a0_1:Int):Option (Int × Int):=some (a0_0,a0_1)
theorem Xbl.calls (a0_0:Int) (a0_1:Int) (r1:Int) (r2:Int) (w:World) (H:Xbl.f a0_0 a0_1=some (r1,r2)) :
  Calls Tryz.prog 206 #[.agg #[.int .i64 a0_0,.int .i64 a0_1]] w fun e w'=>e = .returned (.agg #[.int .i64 r1,.int .i64 r2])∧Below w.heap.size w w':=by
 have hu204:=Tryz.underlying204
 have hu172:=Tryz.underlying172
 have HB:=aM (Below.refl w.heap.size w)
 unfold Xbl.f at H
 simp only[Option.some.injEq,Prod.mk.injEq] at H
 obtain⟨rfl,rfl⟩:=H
 go_enter Tryz.func206,Tryz.ntmps206
 go_wp2_with (first | (refine boxE 1 #[.int .i64 a0_0,.int .i64 a0_1] 204 ?_;intro gbz1 hg wz1 hbox hb;have BKz1:=aM (hbox);have GWz1:=aG hg HB;replace HB:=aS HB hb;clear hb hbox hg) | (refine boxE 2 #[.int .i64 0,.int .i64 0] 172 ?_;intro gbz2 hg wz2 hbox hb;have BKz2:=aM (hbox);have GWz2:=aG hg HB;have NBz1:=aL hg BKz1;have NBz2:=aR hg BKz1;replace BKz1:=aB BKz1 hb;replace HB:=aS HB hb;clear hb hbox hg) | (refine boxE 3 #[.int .i64 0,.int .i64 0] 172 ?_;intro gbz3 hg wz3 hbox hb;have BKz3:=aM (hbox);have GWz3:=aG hg HB;have NBz3:=aL hg BKz1;have NBz4:=aR hg BKz1;have NBz5:=aL hg BKz2;have NBz6:=aR hg BKz2;replace BKz1:=aB BKz1 hb;replace BKz2:=aB BKz2 hb;replace HB:=aS HB hb;clear hb hbox hg;have hnbz1:=nB NBz1 NBz2;have hnbz2:=nB NBz3 NBz4;have hczz1:=cZ2 BKz1.out;have hnbz3:=nB NBz6 NBz5;have hczz3:=cZ2 BKz3.out;have hczz5:=cZ2 BKz2.out))
 refine bodyPost_ret (results_cell_row rfl _ _ gbz2 172 #[.int .i64 a0_0,.int .i64 a0_1] (0,0) _ rfl (bP BKz2.out) Tryz.underlying172 rfl (by kernel_rfl)) rfl ?_
 exact⟨rE,(hX HB.out)⟩
def Xbm.f (a0_0:Int) (a0_1:Int) (a0_2:Int) (a0_3:Int):Option (Int × Int × Int × Int):=some (a0_0,a0_1,a0_2,a0_3)
theorem Xbm.calls (a0_0:Int) (a0_1:Int) (a0_2:Int) (a0_3:Int) (r1:Int) (r2:Int) (r3:Int) (r4:Int) (w:World) (H:Xbm.f a0_0 a0_1 a0_2 a0_3=some (r1,r2,r3,r4)) :
  Calls Tryz.prog 207 #[.agg #[.int .i64 a0_0,.int .i64 a0_1,.int .i64 a0_2,.int .i64 a0_3]] w fun e w'=>e = .returned (.agg #[.int .i64 r1,.int .i64 r2,.int .i64 r3,.int .i64 r4])∧Below w.heap.size w w':=by
 have hu206:=Tryz.underlying206
 have hu174:=Tryz.underlying174
 have HB:=aM (Below.refl w.heap.size w)
 unfold Xbm.f at H
 simp only[Option.some.injEq,Prod.mk.injEq] at H
 obtain⟨rfl,rfl,rfl,rfl⟩:=H
 go_enter Tryz.func207,Tryz.ntmps207
 go_wp2_with (first | (refine boxE 1 #[.int .i64 a0_0,.int .i64 a0_1,.int .i64 a0_2,.int .i64 a0_3] 206 ?_;intro gbz1 hg wz1 hbox hb;have BKz1:=aM (hbox);have GWz1:=aG hg HB;replace HB:=aS HB hb;clear hb hbox hg) | (refine boxE 2 #[.int .i64 0,.int .i64 0,.int .i64 0,.int .i64 0] 174 ?_;intro gbz2 hg wz2 hbox hb;have BKz2:=aM (hbox);have GWz2:=aG hg HB;have NBz1:=aL hg BKz1;have NBz2:=aR hg BKz1;replace BKz1:=aB BKz1 hb;replace HB:=aS HB hb;clear hb hbox hg) | (refine boxE 3 #[.int .i64 0,.int .i64 0,.int .i64 0,.int .i64 0] 174 ?_;intro gbz3 hg wz3 hbox hb;have BKz3:=aM (hbox);have GWz3:=aG hg HB;have NBz3:=aL hg BKz1;have NBz4:=aR hg BKz1;have NBz5:=aL hg BKz2;have NBz6:=aR hg BKz2;replace BKz1:=aB BKz1 hb;replace BKz2:=aB BKz2 hb;replace HB:=aS HB hb;clear hb hbox hg;have hnbz1:=nB NBz1 NBz2;have hnbz2:=nB NBz3 NBz4;have hczz1:=cZ4 BKz1.out;have hnbz3:=nB NBz6 NBz5;have hczz5:=cZ4 BKz3.out;have hczz9:=cZ4 BKz2.out))
 refine bodyPost_ret (results_cell_row rfl _ _ gbz2 174 #[.int .i64 a0_0,.int .i64 a0_1,.int .i64 a0_2,.int .i64 a0_3] (0,0) _ rfl (bP BKz2.out) Tryz.underlying174 rfl (by kernel_rfl)) rfl ?_
 exact⟨rE,(hX HB.out)⟩
def Xa6.f (a0_0:Int) (a0_1:Int) (a0_2:Int):Option (Int × Int × Int):=some (a0_0,a0_1,a0_2)
theorem Xa6.calls (a0_0:Int) (a0_1:Int) (a0_2:Int) (r1:Int) (r2:Int) (r3:Int) (w:World) (H:Xa6.f a0_0 a0_1 a0_2=some (r1,r2,r3)) :
  Calls Tryz.prog 126 #[.agg #[.int .i64 a0_0,.int .i64 a0_1,.int .i64 a0_2]] w fun e w'=>e = .returned (.agg #[.int .i64 r1,.int .i64 r2,.int .i64 r3])∧Below w.heap.size w w':=by
 have hu116:=Tryz.underlying116
 have hu69:=Tryz.underlying69
 have HB:=aM (Below.refl w.heap.size w)
 unfold Xa6.f at H
 simp only[Option.some.injEq,Prod.mk.injEq] at H
 obtain⟨rfl,rfl,rfl⟩:=H
 go_enter Tryz.func126,Tryz.ntmps126
 go_wp2_with (first | (refine boxE 1 #[.int .i64 a0_0,.int .i64 a0_1,.int .i64 a0_2] 116 ?_;intro gbz1 hg wz1 hbox hb;have BKz1:=aM (hbox);have GWz1:=aG hg HB;replace HB:=aS HB hb;clear hb hbox hg) | (refine boxE 2 #[.int .i64 0,.int .i64 0,.int .i64 0] 69 ?_;intro gbz2 hg wz2 hbox hb;have BKz2:=aM (hbox);have GWz2:=aG hg HB;have NBz1:=aL hg BKz1;have NBz2:=aR hg BKz1;replace BKz1:=aB BKz1 hb;replace HB:=aS HB hb;clear hb hbox hg) | (refine boxE 3 #[.int .i64 0,.int .i64 0,.int .i64 0] 69 ?_;intro gbz3 hg wz3 hbox hb;have BKz3:=aM (hbox);have GWz3:=aG hg HB;have NBz3:=aL hg BKz1;have NBz4:=aR hg BKz1;have NBz5:=aL hg BKz2;have NBz6:=aR hg BKz2;replace BKz1:=aB BKz1 hb;replace BKz2:=aB BKz2 hb;replace HB:=aS HB hb;clear hb hbox hg;have hnbz1:=nB NBz1 NBz2;have hnbz2:=nB NBz3 NBz4;have hczz1:=cZ3 BKz1.out;have hnbz3:=nB NBz6 NBz5;have hczz4:=cZ3 BKz3.out;have hczz7:=cZ3 BKz2.out))
 refine bodyPost_ret (results_cell_row rfl _ _ gbz2 69 #[.int .i64 a0_0,.int .i64 a0_1,.int .i64 a0_2] (0,0) _ rfl (bP BKz2.out) Tryz.underlying69 rfl (by kernel_rfl)) rfl ?_
 exact⟨rE,(hX HB.out)⟩
def XX.l0:Nat→List Int→Int→Int→Option (Int × List Int)
 | 0,_,_,_=>none
 | k+1,x0,x1,x5=>if x5<(x0.length:Int) then (if 0≤x5 then (XX.l0 k (x0.set (x5:Int).toNat x1) (wrap64 (x1+1)) (wrap64 (x5+1))) else (none)) else (some (x1,x0))
def XX.f (k:Nat) (l0:List Int) (a1:Int):Option (Int × List Int):=XX.l0 k l0 a1 0
theorem XX.calls (k:Nat) (P0_:Nat→Prop) (u9000_:Value) (l0:List Int) (a1:Int) (r1:Int) (r2:List Int) (w0 w:World) (hB:Below w0.heap.size w0 w) (ho0:Kd.R (Kd.int .i64) 3 w w0.heap.size P0_ u9000_ l0) (H:XX.f k l0 a1=some (r1,r2)) :
  Calls Tryz.prog 71 #[u9000_,.int .i64 a1] w fun e w'=>e = .returned (.int .i64 r1)∧Kd.R (Kd.int .i64) 3 w' w0.heap.size (fun k_=>(P0_ k_ ∨ w.heap.size≤k_)) u9000_ r2∧Below w0.heap.size w0 w'∧Kept w w' (fun k_=>P0_ k_):=by
 have HO0:=aM (show Kd.R (Kd.int .i64) 3 w w0.heap.size (fun k_=>(P0_ k_ ∨ w.heap.size≤k_)) u9000_ l0 from Kd.R_mono ho0 (fun k_ hk=>(.inl hk)))
 have HK:=aM (Kept.refl w (fun k_=>P0_ k_))
 have HW0:=aM hB.size
 have HB:=aM hB
 clear hB
 unfold XX.f at H
 have H':=aM H
 clear H
 go_enter Tryz.func71,Tryz.ntmps71
 go_wp2
 go_loopg [1,5] k (fun kq v1 v5 w'=>∃ (x0_1:List Int) (x1_1:Int) (x5_1:Int),v1 = .int .i64 x1_1∧v5 = .int .i64 x5_1∧Aside0 (XX.l0 kq x0_1 x1_1 x5_1=some (r1,r2))∧Aside0 (kq≤k)∧Aside0 (Kd.R (Kd.int .i64) 3 w' w0.heap.size (fun k_=>(P0_ k_ ∨ w.heap.size≤k_)) u9000_ x0_1)∧Aside0 (Kept w w' (fun k_=>P0_ k_))∧Aside0 (Below w0.heap.size w0 w'))
 case atStart=>exact⟨(l0),(a1),(0),rS,rS,H',⟨Nat.le_refl _⟩,⟨(rX HO0.out)⟩,⟨by repeat (first | (with_reducible first | exact HK.out | apply Kept.alloc | apply Kept.drewN | apply Kept.drew) | exact HK.out)⟩,⟨(hX HB.out)⟩⟩
 case round =>
  clear H'
  obtain⟨x0_1,x1_1,x5_1,rfl,rfl,HA,HKy1,HO_y1,HK,HB⟩:=hrel
  cases gk with
  | zero=>exact absurd HA.out (by simp[XX.l0])
  | succ k1 =>
   have H:=HA.out
   clear HA
   simp only[XX.l0] at H
   revert H;refine iN ?_ ?_<;>intro c3b0 H
   ·simp only[Option.some.injEq,Prod.mk.injEq] at H
    obtain⟨rfl,rfl⟩:=H
    obtain⟨Aox1,cox1,eox1⟩:=Kd.R_slice HO_y1.out
    subst eox1
    go_wp2
    go_ret
    exact⟨rE,(rX HO_y1.out),(hX HB.out),by repeat (first | (with_reducible first | exact HK.out | apply Kept.alloc | apply Kept.drewN | apply Kept.drew) | exact HK.out)⟩
   replace H:=ifQ H;obtain⟨c4b0,H⟩:=H
   obtain⟨y101,hy101⟩:∃ y_:List Int,y_=(x0_1.set (x5_1:Int).toNat x1_1):=⟨_,rfl⟩
   replace H:(XX.l0 k1 y101 (wrap64 (x1_1+1)) (wrap64 (x5_1+1)))=some (r1,r2):=yH H hy101
   have Ny101:=aM hy101
   clear hy101
   have H':=aM H
   clear H
   obtain⟨Aox1,cox1,eox1⟩:=Kd.R_slice HO_y1.out
   subst eox1
   have px1:0≤(x5_1:Int):=odA
   have qx1:(x5_1:Int)<((x0_1.length:Int):Int):=odA
   obtain⟨gox1,cox2,eox2,gbx1,glx1,clx1,HGx1⟩:=Kd.R_form HO_y1.out (by omega)
   (first | cases eox2 | (injection eox2 with ea_ en_ ec_;(first | subst ea_ | (injection ea_ with ea_;subst ea_));subst ec_;clear en_))
   have GBx1:=aM gbx1
   have GGx1:=aM HGx1
   clear gbx1 glx1 HGx1
   have HMgox1:=aM (show (P0_ gox1 ∨ w.heap.size≤gox1) from (HO_y1.out.1 _ rfl))
   obtain⟨hxx1,hfx1⟩:=Kd.R_celln 0 HO_y1.out (x5_1:Int) px1 qx1
   replace px1:=eq_true px1
   replace qx1:=eq_true qx1
   have HPx1:=Kd.R_putg HO_y1.out (x5_1:Int) x1_1
   go_wp2_with ((with_reducible refine gate_store (t:=3) (p:=15) rfl ?_);refine store_event (t:=3) (p:=15) (v:=?vo_wx1) (w1:=(wr.setCell ⟨gox1,(x5_1:Int).toNat,none⟩ (.int .i64 x1_1))) ?hg ?ho ?hn ?hr ?_;(case ho=>rfl);(case hg=>rfl);(case hn=>rfl);(case hr=>first | (go_simp;done) | (go_simp;rfl));intro wx1 hw;have hg:wr.grownBy wx1 (some gox1):=(by rw[hw];exact HPx1.2);have hp_:Kd.R (Kd.int .i64) 3 wx1 w0.heap.size (fun k_=>(P0_ k_ ∨ w.heap.size≤k_)) (.slice (some ⟨gox1,0,none⟩) x0_1.length cox1) y101:=(by rw[hw,Ny101.out];exact HPx1.1);clear HPx1;replace HB:=aM ((by rw[hw];exact below_set (HB.out) GBx1.out:Below w0.heap.size w0 wx1));replace HK:=aM (Kept.of_grown (S:=(fun k_=>P0_ k_)) hg (by repeat (first | (with_reducible first | exact HK.out | apply Kept.alloc | apply Kept.drewN | apply Kept.drew) | exact HK.out)) (fun k_ e_=>(HO_y1.out.1 k_ e_)));replace HO_y1:=aM (hp_);clear hg hw hp_)
   go_roundg k1
   case measure=>have:=HKy1.out;omega
   case rel=>exact⟨(y101),(wrap64 (x1_1+1)),(wrap64 (x5_1+1)),rS,rS,H',⟨by have:=HKy1.out;omega⟩,⟨(rX HO_y1.out)⟩,⟨by repeat (first | (with_reducible first | exact HK.out | apply Kept.alloc | apply Kept.drewN | apply Kept.drew) | exact HK.out)⟩,⟨(hX HB.out)⟩⟩
def Xam.l0:Nat→List (S140)→Int→Int→Option (Int × (List (S140)))
 | 0,_,_,_=>none
 | k+1,x0,x1,x5=>if x5<(x0.length:Int) then (if 0≤x5 then (Xam.l0 k (x0.set (x5:Int).toNat (⟨x1,wrap64 (x1+1),wrap64 ((wrap64 (x1+1))+1)⟩:S140)) (wrap64 ((wrap64 ((wrap64 (x1+1))+1))+1)) (wrap64 (x5+1))) else (none)) else (some (x1,x0))
def Xam.f (k:Nat) (l0:List (S140)) (a1:Int):Option (Int × (List (S140))):=Xam.l0 k l0 a1 0
theorem Xam.calls (k:Nat) (P0_:Nat→Prop) (u9000_:Value) (l0:List (S140)) (a1:Int) (r1:Int) (r2:List (S140)) (w0 w:World) (hB:Below w0.heap.size w0 w) (ho0:Kd.R k140 140 w w0.heap.size P0_ u9000_ l0) (h:Xam.f k l0 a1=some (r1,r2)) :
  Calls Tryz.prog 129 #[u9000_,.int .i64 a1] w fun e w'=>e = .returned (.int .i64 r1)∧Kd.R k140 140 w' w0.heap.size P0_ u9000_ r2∧Below w0.heap.size w0 w'∧Kept w w' (fun k_=>P0_ k_):=by
 have HO0:=Aside0.mk (Deep.S_flat rfl ho0)
 have HK:=aM (Kept.refl w (fun k_=>P0_ k_))
 have HB:=Aside0.mk hB
 clear hB ho0
 have H':=aM (show Xam.l0 k l0 a1 0=some (r1,r2) from h)
 clear h
 go_enter Tryz.func129,Tryz.ntmps129
 go_wp2
 go_loopg [1,5] k (fun kq v1 v5 w'=>∃ (x0:List (S140)) (x1:Int) (x5:Int),v1 = .int .i64 x1∧v5 = .int .i64 x5∧Aside0 (Xam.l0 kq x0 x1 x5=some (r1,r2))∧Aside0 (kq≤k)∧Aside0 (Kd.S k140 140 w' w0.heap.size P0_ u9000_ x0)∧Aside0 (Kept w w' (fun k_=>P0_ k_))∧Aside0 (Below w0.heap.size w0 w'))
 case atStart=>exact⟨l0,a1,0,(by first | rfl | (simp;done) | (simp[*];done)),(by first | rfl | (simp;done) | (simp[*];done)),H',⟨Nat.le_refl _⟩,HO0,HK,HB⟩
 case round =>
  clear H'
  try clear p2
  obtain⟨x0,x1,x5,rfl,rfl,HA,HK1,HO,HK,HB⟩:=hrel
  cases gk with
  | zero=>exact absurd HA.out (by simp[Xam.l0])
  | succ k1 =>
   have H:=HA.out
   clear HA
   simp only[Xam.l0] at H
   by_cases c3:x5<(x0.length:Int)
   ·rw[if_pos c3] at H
    have hq0:=Aside0.mk c3
    have c3b0:decide (x5<(x0.length:Int))=true:=decide_eq_true c3
    by_cases c4:0≤x5
    ·rw[if_pos c4] at H
     have hp0:=Aside0.mk c4
     have c4b0:decide (0≤x5)=true:=decide_eq_true c4
     have H':=Aside0.mk H
     clear H
     obtain⟨go,co,eo,gb,gl,cl,HG⟩:=Kd.S_form HO.out (by omega)
     subst eo
     have GB:=Aside0.mk gb
     clear gb gl HG
     have HM:=aM (show P0_ go from ((Kd.S_R HO.out).1 _ rfl))
     obtain⟨oki,ce,hcl,hM,hcc,hfr,hoki,hH⟩:=Kd.S_elem HO.out z140 x5 c4 c3
     obtain rfl:=k140_openM hM
     have hok:=Aside0.mk hoki
     have HH:=Aside0.mk hH
     have hx0:wr.cell? ⟨go,x5.toNat * 3,none⟩=some (.int .i64 (rd_T140 x0 x5).f0):=(Deep.H_facts HH.out hp0.out hq0.out).1 0 _ rfl
     have hz0:wr.frozen? ⟨go,x5.toNat * 3,none⟩=false:=(Deep.H_facts HH.out hp0.out hq0.out).2 0
     clear hcl hM hcc hfr hoki hH 
     clear HO
     replace c3:=eq_true c3
     replace c4:=eq_true c4
     go_wp2_with (first | ((with_reducible refine gate_store (t:=3) (p:=16) rfl ?_);refine store_event (t:=3) (p:=16) (v:=?vo_wz1) (w1:=(wr.setCell ⟨go,x5.toNat * 3,none⟩ (.int .i64 x1))) ?hg ?ho ?hn ?hr ?_;(case ho=>rfl);(case hg=>rfl);(case hn=>rfl);(case hr=>first | (go_simp;done) | (go_simp;rfl));intro wz1 hw;have hp_:=Deep.H_put HH.out hp0.out hq0.out 0 (.int .i64 x1) (by decide) rfl;have hg:wr.grownBy wz1 (some go):=(by rw[hw];exact hp_.2);have n0_:=aM (show Kd.H k140 140 wz1 w0.heap.size P0_ (.slice (some ⟨go,0,none⟩) x0.length co) x0 x5 oki [.int .i64 x1,.int .i64 (rd_T140 x0 x5).f1,.int .i64 (rd_T140 x0 x5).f2] from by rw[hw];exact hp_.1);have n1_:=aM (show Below w0.heap.size w0 wz1 from by rw[hw];exact below_set HB.out GB.out);have n2_:=aM (Kept.of_grown (S:=(fun k_=>P0_ k_)) hg HK.out (fun k_ e_ => .inl ((Option.some.inj e_) ▸ HM.out)));clear HH HB HK hp_ hg hw;have HH:=n0_;have HB:=n1_;have HK:=n2_;clear n0_ n1_ n2_;have hx1:wz1.cell? ⟨go,x5.toNat * 3+1,none⟩=some (.int .i64 (rd_T140 x0 x5).f1):=(Deep.H_facts HH.out hp0.out hq0.out).1 1 _ rfl;have hz1:wz1.frozen? ⟨go,x5.toNat * 3+1,none⟩=false:=(Deep.H_facts HH.out hp0.out hq0.out).2 1) | ((with_reducible refine gate_store (t:=3) (p:=23) rfl ?_);refine store_event (t:=3) (p:=23) (v:=?vo_wz2) (w1:=(wz1.setCell ⟨go,x5.toNat * 3+1,none⟩ (.int .i64 (wrap64 (x1+1))))) ?hg ?ho ?hn ?hr ?_;(case ho=>rfl);(case hg=>rfl);(case hn=>rfl);(case hr=>first | (go_simp;done) | (go_simp;rfl));intro wz2 hw;have hp_:=Deep.H_put HH.out hp0.out hq0.out 1 (.int .i64 (wrap64 (x1+1))) (by decide) rfl;have hg:wz1.grownBy wz2 (some go):=(by rw[hw];exact hp_.2);have n0_:=aM (show Kd.H k140 140 wz2 w0.heap.size P0_ (.slice (some ⟨go,0,none⟩) x0.length co) x0 x5 oki [.int .i64 x1,.int .i64 (wrap64 (x1+1)),.int .i64 (rd_T140 x0 x5).f2] from by rw[hw];exact hp_.1);have n1_:=aM (show Below w0.heap.size w0 wz2 from by rw[hw];exact below_set HB.out GB.out);have n2_:=aM (Kept.of_grown (S:=(fun k_=>P0_ k_)) hg HK.out (fun k_ e_ => .inl ((Option.some.inj e_) ▸ HM.out)));clear HH HB HK hp_ hg hw;have HH:=n0_;have HB:=n1_;have HK:=n2_;clear n0_ n1_ n2_;have hx2:wz2.cell? ⟨go,x5.toNat * 3+2,none⟩=some (.int .i64 (rd_T140 x0 x5).f2):=(Deep.H_facts HH.out hp0.out hq0.out).1 2 _ rfl;have hz2:wz2.frozen? ⟨go,x5.toNat * 3+2,none⟩=false:=(Deep.H_facts HH.out hp0.out hq0.out).2 2) | ((with_reducible refine gate_store (t:=3) (p:=30) rfl ?_);refine store_event (t:=3) (p:=30) (v:=?vo_wz3) (w1:=(wz2.setCell ⟨go,x5.toNat * 3+2,none⟩ (.int .i64 (wrap64 ((wrap64 (x1+1))+1))))) ?hg ?ho ?hn ?hr ?_;(case ho=>rfl);(case hg=>rfl);(case hn=>rfl);(case hr=>first | (go_simp;done) | (go_simp;rfl));intro wz3 hw;have hp_:=Deep.H_put HH.out hp0.out hq0.out 2 (.int .i64 (wrap64 ((wrap64 (x1+1))+1))) (by decide) rfl;have hg:wz2.grownBy wz3 (some go):=(by rw[hw];exact hp_.2);have n0_:=aM (show Kd.H k140 140 wz3 w0.heap.size P0_ (.slice (some ⟨go,0,none⟩) x0.length co) x0 x5 oki [.int .i64 x1,.int .i64 (wrap64 (x1+1)),.int .i64 (wrap64 ((wrap64 (x1+1))+1))] from by rw[hw];exact hp_.1);have n1_:=aM (show Below w0.heap.size w0 wz3 from by rw[hw];exact below_set HB.out GB.out);have n2_:=aM (Kept.of_grown (S:=(fun k_=>P0_ k_)) hg HK.out (fun k_ e_ => .inl ((Option.some.inj e_) ▸ HM.out)));clear HH HB HK hp_ hg hw;have HH:=n0_;have HB:=n1_;have HK:=n2_;clear n0_ n1_ n2_))
     go_roundg k1
     case measure=>have:=HK1.out;omega
     case rel=>exact⟨(x0.set (x5:Int).toNat (⟨x1,wrap64 (x1+1),wrap64 ((wrap64 (x1+1))+1)⟩:S140)),(wrap64 ((wrap64 ((wrap64 (x1+1))+1))+1)),(wrap64 (x5+1)),(by first | rfl | (simp;done) | (simp[*];done)),(by first | rfl | (simp;done) | (simp[*];done)),H',⟨by have:=HK1.out;omega⟩,⟨Kd.H_back HH.out (k140_mkM _ _ _ (⟨x1,wrap64 (x1+1),wrap64 ((wrap64 (x1+1))+1)⟩:S140) ) (fun _ hk_=>hk_)⟩,HK,HB⟩
    ·rw[if_neg c4] at H
     exact absurd H (by simp)
   ·rw[if_neg c3] at H
    have c3b0:decide (x5<(x0.length:Int))=false:=decide_eq_false c3
    clear c3
    simp only[Option.some.injEq,Prod.mk.injEq] at H
    obtain⟨rfl,rfl⟩:=H
    obtain⟨Ao,co,eo⟩:=Kd.S_slice HO.out
    subst eo
    go_wp2
    go_ret
    exact⟨by first | rfl | (simp[errW_none,errW_some]<;>rfl),Kd.S_R HO.out,HB.out,HK.out⟩
end Go.Proofs.YtmljebgideecjaaGreat.P2
