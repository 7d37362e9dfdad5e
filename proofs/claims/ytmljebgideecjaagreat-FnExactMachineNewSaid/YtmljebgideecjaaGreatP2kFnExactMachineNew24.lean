/- A part of the proof of the law FnExactMachineNew: texts of this seat, merged (words, printed functions of the program, plain lemmas). Conditions: none of its own. -/
import Derived.Test.YtmljebgideecjaaGreatP2kFnExactMachineNew15
import Derived.Test.YtmljebgideecjaaGreatP2kFnExactMachineNew16
import Derived.Test.YtmljebgideecjaaGreatP2kFnExactMachineNew17
import Derived.Test.YtmljebgideecjaaGreatP2kFnExactMachineNew18
set_option linter.unusedSimpArgs false
set_option linter.unusedVariables false
set_option maxHeartbeats 8000000
set_option maxRecDepth 100000
namespace Go.Proofs.YtmljebgideecjaaGreat.P2
open Go.Proofs.YtmljebgideecjaaGreatZ Go.RowKit Go.Proofs.YtmljebgideecjaaGreatW.PrintWords Go.Proofs.YtmljebgideecjaaGreatW.PrintLast Go.Proofs.YtmljebgideecjaaGreatW.PrintMore
attribute [local go_sem] max2_int min2_int max_two min_two max_three min_three max_four min_four   -- for this text's walks alone
def XH.l0:Nat→List (List (S69))→List (List (S69))→Int→Option (Bool)
 | 0,_,_,_=>none
 | k+1,x0,x1,x5=>if x5<(x0.length:Int) then (if 0≤x5 then (if x5<(x1.length:Int) then ((XA.f k (rd_L22 x0 x5) (rd_L22 x1 x5)).bind fun t103=>(if t103=true then (XH.l0 k x0 x1 (wrap64 (x5+1))) else (some false))) else (none)) else (none)) else (some true)
def XH.f (k:Nat) (l0:List (List (S69))) (l1:List (List (S69))):Option (Bool):=if (l0.length:Int)=(l1.length:Int) then (XH.l0 k l0 l1 0) else (some false)
def XH.T6:Bool × List (List Nat × List Nat):=(true,[([],[]),([],[]),([0,1],[0,1]),([2],[2]),([],[]),([],[]),([4,5],[4,5]),([6],[6]),([3,7],[3,7]),([8],[8])])
def XH.B6:List Nat:=[0,0,3,7,0,0,48,112,255,511]
theorem XH.tab6:rtab .any (opsOf Tryz.f24 6)=XH.T6:=by kernel_rfl
theorem XH.bits6:waitsOk XH.T6.2 XH.B6=true:=by kernel_rfl
theorem XH.calls (k:Nat) (A0:Option Addr) (c0:Nat) (l0:List (List (S69))) (A1:Option Addr) (c1:Nat) (l1:List (List (S69))) (r:Bool) (w:World) (h0:Rw (Kd.slice 69 k69) w A0 c0 l0) (h1:Rw (Kd.slice 69 k69) w A1 c1 l1) (H:XH.f k l0 l1=some r) :
  Calls Tryz.prog 24 #[.slice A0 l0.length c0,.slice A1 l1.length c1] w fun e w'=>e = .returned (.bool r)∧Below w.heap.size w w':=by
 obtain⟨HR0,HC0⟩:=h0
 obtain⟨HR1,HC1⟩:=h1
 have HB:=aM (Below.refl w.heap.size w)
 unfold XH.f at H
 go_enter Tryz.func24,Tryz.ntmps24
 by_cases c3:(l0.length:Int)=(l1.length:Int)
 case neg =>
  rw[if_neg c3] at H
  obtain⟨c3b0,c3b1⟩:=eqF c3
  have c3b2:(l0.length == l1.length)=false:=by first | simpa using c3 | (simp at c3 ⊢;omega)
  exact fR
 rw[if_pos c3] at H
 obtain⟨c3b0,c3b1⟩:=eqT c3
 have c3b2:(l0.length == l1.length)=true:=by first | simpa using c3 | (simp at c3 ⊢;omega)
 clear c3
 have H':=aM H
 clear H
 go_wp2
 go_loopg [5] k (fun kq v5 w'=>∃ (x5_1:Int),v5 = .int .i64 x5_1∧Aside0 (XH.l0 kq l0 l1 x5_1=some r)∧Aside0 (kq≤k)∧Aside0 (Below w.heap.size w w'))
 case atStart=>exact⟨(0),rS,H',⟨Nat.le_refl _⟩,⟨(hX HB.out)⟩⟩
 case round =>
  clear H'
  try clear c3
  try clear c3b0
  try clear c3b1
  try clear c3b2
  obtain⟨x5_1,rfl,HA,HKy1,HB⟩:=hrel
  cases gk with
  | zero=>exact absurd HA.out (by simp[XH.l0])
  | succ k1 =>
   have H:=HA.out
   clear HA
   simp only[XH.l0] at H
   revert H;refine iN ?_ ?_<;>intro c4b0 H
   ·obtain rfl:=sI H
    exact fS
   replace H:=ifQ H;obtain⟨c5b0,H⟩:=H
   replace H:=ifQ H;obtain⟨c6b0,H⟩:=H
   replace H:=bE H;obtain⟨t103,A7,H⟩:=H
   try go_wp2
   have px1:0≤(x5_1:Int):=odA
   have qx1:x5_1<(l0.length:Int):=odA
   obtain⟨adx1,Ax1,cx1,ex1,hxx1,hlx1,hix1⟩:=at_L22 HR0.out x5_1 px1 qx1
   have hwx1:=hxx1
   cases ex1
   replace hxx1:=bc HB.out hxx1
   have HRx1:=aM hix1
   have HCx1:=aM hlx1
   clear hix1 hlx1
   replace px1:=eq_true px1
   replace qx1:=eq_true qx1
   have px2:0≤(x5_1:Int):=odA
   have qx2:x5_1<(l1.length:Int):=odA
   obtain⟨adx2,Ax2,cx2,ex2,hxx2,hlx2,hix2⟩:=at_L22 HR1.out x5_1 px2 qx2
   have hwx2:=hxx2
   cases ex2
   replace hxx2:=bc HB.out hxx2
   have HRx2:=aM hix2
   have HCx2:=aM hlx2
   clear hix2 hlx2
   replace px2:=eq_true px2
   replace qx2:=eq_true qx2
   refine sR0 10 XH.tab6 XH.bits6 (fun HT_ HW_ hHeld => ?_)
   refine zA 0 ?_
   refine zA 1 ?_
   refine zA 2 ?_
   refine zA 4 ?_
   refine zA 5 ?_
   refine zA 6 ?_
   refine tA 3 ?_
   refine tA 7 ?_
   cases t103
   case false =>
    rw[if_neg nft] at H
    obtain rfl:=sI H
    refine eB 8 Tryz.func70 (XA.calls k1 _ _ (rd_L22 l0 x5_1) _ _ (rd_L22 l1 x5_1) false _ (rW HRx1 HB HCx1) (rW HRx2 HB HCx2) A7.out) (fun wx2 hb hHeld => ?_)
    replace HB:=aS HB hb
    (try clear hb)
    refine zA 9 ?_
    refine dA ?_
    try go_wp2
    go_ret
    exact⟨rE,(hX HB.out)⟩
   rw[if_pos rfl] at H
   have H':=aM H
   clear H
   refine eB 8 Tryz.func70 (XA.calls k1 _ _ (rd_L22 l0 x5_1) _ _ (rd_L22 l1 x5_1) true _ (rW HRx1 HB HCx1) (rW HRx2 HB HCx2) A7.out) (fun wx2 hb hHeld => ?_)
   replace HB:=aS HB hb
   (try clear hb)
   refine zA 9 ?_
   refine dA ?_
   try go_wp2
   go_roundg k1
   case measure=>have:=HKy1.out;omega
   case rel=>exact⟨(wrap64 (x5_1+1)),rS,H',⟨by have:=HKy1.out;omega⟩,⟨(hX HB.out)⟩⟩
def XaN.f (k:Nat) (l0_0:List (S140)) (l0_1:List (S162)) (a1:Int):Option (Int):=(XX.f k l0_0 a1).bind fun t102=>(if t102<0 then (some (-1)) else ((X2.f k l0_1 t102).bind fun t103=>(if t103<0 then (some (-1)) else (some t103))))
theorem XaN.calls (k:Nat) (A0_0:Option Addr) (c0_0:Nat) (l0_0:List (S140)) (A0_1:Option Addr) (c0_1:Nat) (l0_1:List (S162)) (a1:Int) (r:Int) (w:World) (h0_0:Rw k140 w A0_0 c0_0 l0_0) (h0_1:Rw k162 w A0_1 c0_1 l0_1) (H:XaN.f k l0_0 l0_1 a1=some r) :
  Calls Tryz.prog 76 #[.agg #[.slice A0_0 l0_0.length c0_0,.slice A0_1 l0_1.length c0_1],.int .i64 a1] w fun e w'=>e = .returned (.int .i64 r)∧Below w.heap.size w w':=by
 have hu38:=Tryz.underlying38
 obtain⟨HR0_0,HC0_0⟩:=h0_0
 obtain⟨HR0_1,HC0_1⟩:=h0_1
 have HB:=aM (Below.refl w.heap.size w)
 unfold XaN.f at H
 replace H:=bE H;obtain⟨t102,A3,H⟩:=H
 go_enter Tryz.func76,Tryz.ntmps76
 go_wp2_with (first | (refine boxE 2 #[.slice A0_0 l0_0.length c0_0,.slice A0_1 l0_1.length c0_1] 38 ?_;intro gbz1 hg wz1 hbox hb;have BKz1:=aM (hbox);have GWz1:=aG hg HB;replace HB:=aS HB hb;clear hb hbox hg;have hczz1:=cZ2 BKz1.out) | (refine gD 133 8 Tryz.func133 (XX.calls _ _ _ _ _ _ _ (rW HR0_0 HB HC0_0) A3.out) ?_;intro nd;refine Stop.out ?_))
 refine⟨?_⟩
 revert H;refine iP ?_ ?_<;>intro c4b0 H
 ·obtain rfl:=sI H
  exact fS
 replace H:=bE H;obtain⟨t103,A7,H⟩:=H
 go_wp2_with (refine gD 134 14 Tryz.func134 (X2.calls _ _ _ _ _ _ _ (rW HR0_1 HB HC0_1) A7.out) ?_;intro nd;refine Stop.out ?_)
 refine⟨?_⟩
 revert H;refine iP ?_ ?_<;>intro c8b0 H
 ·obtain rfl:=sI H
  exact fS
 exact fR
def Xa6.f (k:Nat) (l0:List (S140)) (l1:List (S162)) (a1:Int):Option (Int × List (S140) × List (S162)):=(XZ.f k l0 a1).bind fun t1=>((X3.f k l1 t1.1).bind fun t2=>(some (t2.1,t1.2,t2.2)))
theorem Xa6.calls (k:Nat) (okW okD:Nat→Prop) (vW vD:Value) (l0:List (S140)) (l1:List (S162)) (a1:Int) (r1:Int) (r2:List (S140)) (r3:List (S162)) (w0 w:World) (hB:Below w0.heap.size w0 w) (hW:Kd.R k140 140 w w0.heap.size okW vW l0) (hD:Kd.S k162 162 w w0.heap.size okD vD l1) (H:Xa6.f k l0 l1 a1=some (r1,r2,r3)) :
  Calls Tryz.prog 73 #[.agg #[vW,vD],.int .i64 a1] w fun e w'=>e = .returned (.int .i64 r1)∧Kd.R k140 140 w' w0.heap.size okW vW r2∧Kd.S k162 162 w' w0.heap.size okD vD r3∧Below w0.heap.size w0 w'∧Kept w w' (fun k=>some k=vW.ownBlock ∨ okD k):=by
 have hu38:=Tryz.underlying38
 have HW:=aM hW
 have HD:=aM (Deep.S_ty (l:=[162,165,3]) hD)
 have hWt:=aM (Deep.own_ty hW)
 have HB:=aM hB
 clear hB hW hD
 unfold Xa6.f at H
 replace H:=bE H;obtain⟨⟨t1,t2⟩,A1,H⟩:=H
 replace H:=bE H;obtain⟨⟨t3,t4⟩,A2,H⟩:=H
 simp only[Option.some.injEq,Prod.mk.injEq] at H
 obtain⟨rfl,rfl,rfl⟩:=H
 obtain⟨Ao1,co1,eo1⟩:=Kd.R_slice HW.out
 subst eo1
 obtain⟨Ao2,co2,eo2⟩:=Kd.S_slice HD.out
 subst eo2
 go_enter Tryz.func73,Tryz.ntmps73
 go_wp2_with (first | (refine boxE 2 #[.slice Ao1 l0.length co1,.slice Ao2 l1.length co2] 38 ?_;intro gbz1 hg wz1 hbox hb;have BKz1:=aM (hbox);have GEz1:=aG hg HB;have hgw:=aM (show w.heap.size≤gbz1 from Nat.le_of_eq hg.symm);replace HW:=aQ HW hb;replace HD:=aT HD hb;have HK:=aM (Kept.of_below hb (fun k=>some k=(Value.slice Ao1 l0.length co1).ownBlock ∨ okD k));replace HB:=aS HB hb;clear hb hbox hg;have hczz1:=cZ2 BKz1.out) | ((with_reducible refine gate_callee (f:=129) rfl ?_);refine goesM 129 8 Tryz.func129 #[.slice Ao1 l0.length co1,.int .i64 a1] ?_;refine(XZ.calls k (fun k_=>some k_=(.slice Ao1 l0.length co1:Value).ownBlock) (.slice Ao1 l0.length co1) l0 a1 t1 t2 w0 _ (hX HB.out) (by exact Kd.R_tight rfl HW.out) A1.out).mono ?_;rintro e wz2 ⟨rfl,hyz1,hb,hkp⟩;refine⟨_,rfl,?_⟩;replace BKz1:=aM (blk_kept (bX BKz1.out) hkp (fun e_=>(Kd.R_ne HW.out BKz1.out (by decide)) e_));replace HK:=aM (Kept.then_ HK.out hkp (fun k_ e_ => .inl (.inl e_)));replace HD:=aM (Kd.S_kept HD.out hkp (fun k_ h1_ e_=>Deep.Ty_no (l:=[162,165,3]) h1_.2 (hWt.out k_ e_.symm) (by decide)));replace HW:=aM (Kd.R_reok rfl hyz1 (fun k_ e_=>HW.out.1 k_ e_));replace HB:=aM hb;clear hb hkp hyz1;have hczz2:=cZ2 BKz1.out) | ((with_reducible refine gate_callee (f:=130) rfl ?_);refine goesM 130 12 Tryz.func130 #[.slice Ao2 l1.length co2,.int .i64 t1] ?_;refine(X3.calls k (fun k_=>okD k_∧Deep.Ty w k_ [162,165,3]) (.slice Ao2 l1.length co2) l1 t1 t3 t4 w0 _ (hX HB.out) (sX HD.out) A2.out).mono ?_;rintro e wz3 ⟨rfl,hyz1,hb,hkp⟩;refine⟨_,rfl,?_⟩;replace HK:=aM (Kept.then_ HK.out hkp (fun k_ e_ => .inl (.inr e_.1)));replace HW:=aM (Kd.R_reok rfl (Kd.R_kept (Kd.R_tight rfl HW.out) hkp (fun k_ h1_ h2_=>Deep.Ty_no (l:=[162,165,3]) h2_.2 (hWt.out k_ h1_.symm) (by decide))) (fun k_ e_=>HW.out.1 k_ e_));replace HD:=aM hyz1;replace HB:=aM hb;clear hb hkp hyz1))
 go_ret
 exact⟨rE,(rX HW.out),sX (Kd.S_mono HD.out (fun _ hk=>hk.1)),(hX HB.out),HK.out⟩






end Go.Proofs.YtmljebgideecjaaGreat.P2
namespace Go.Proofs.YtmljebgideecjaaGreat.P2
open Go.RowKit Go.Proofs.YtmljebgideecjaaGreatW.PrintWords Go.Proofs.YtmljebgideecjaaGreatW.PrintLast Go.Proofs.YtmljebgideecjaaGreatZ
abbrev iWord:=S140
theorem eqWordS_ev (l:List iWord) (hl:l.length≤9223372036854775807):Ev (fun k=>Xt.f k l l) true:=by
 simp only[Xt.f,if_true]
 refine look_ev l true (g:=fun k i=>Xt.l0 k l l i) ?_ ?_
 ·refine Ev.shift ?_
  simp only[Xt.l0,Int.lt_irrefl,if_false]
  exact Ev.now _
 ·intro i x hx hi h
  refine Ev.shift ?_
  have d1:(i:Int)<(l.length:Int):=by omega
  have d2:(0:Int)≤(i:Int):=by omega
  simp only[Xt.l0,Xa2.f,bne_self_eq_false,Bool.false_eq_true,if_false,Option.bind_some,d1,d2,if_true,succ64 hi hl]
  exact h
abbrev iEntry:=S165
theorem eqEntryS_ev (l:List iEntry) (hl:l.length≤9223372036854775807):Ev (fun k=>Xq.f k l l) true:=by
 simp only[Xq.f,if_true]
 refine look_ev l true (g:=fun k i=>Xq.l0 k l l i) ?_ ?_
 ·refine Ev.shift ?_
  simp only[Xq.l0,Int.lt_irrefl,if_false]
  exact Ev.now _
 ·intro i x hx hi h
  refine Ev.shift ?_
  have d1:(i:Int)<(l.length:Int):=by omega
  have d2:(0:Int)≤(i:Int):=by omega
  simp only[Xq.l0,XaU.f,bne_self_eq_false,Bool.false_eq_true,if_false,Option.bind_some,d1,d2,if_true,succ64 hi hl]
  exact h
theorem eqRes_ev (a:Int) (l:List Int) (hl:l.length≤9223372036854775807):Ev (fun k=>XaE.f k a l a l) true:=by
 simp only[XaE.f,if_true]
 refine Ev.bind (eqIntS_ev l hl) ?_
 simp only[if_true]
 exact Ev.now _
theorem ctl_mem {τ:Type} {ct:τ→Int} (h:∀ x,0≤ct x) {x:τ} : ∀ {l:List τ},x ∈ l→ct x≤ctl ct l
 | [],m=>by cases m
 | y :: l,m=>by
  have h1:=h y
  have h2:=ctl_nonneg h l
  simp only[ctl]
  rcases List.mem_cons.mp m with e | m
  ·rw[e];omega
  ·have:=ctl_mem h m;omega
abbrev lOp:=S116
abbrev iOp:=S69
def cOp (x:lOp):iOp:=⟨x.f0,x.f1,x.f2⟩
theorem szOpS_eq (l:List lOp) (t:Int) (h0:0≤t) (h1:t≤1048576) (hl:l.length≤9223372036854775807):Xa7.f l t=some (lf (l.length:Int) t):=by
 have e:wrap64 (t - (l.length:Int))=t - l.length:=w64 (by omega) (by omega)
 unfold Xa7.f lf
 rw[e]
 by_cases h:(l.length:Int)≤t
 ·rw[if_neg (by omega),if_pos h]
 ·rw[if_pos (by omega),if_neg h]
theorem toOpS_ev (l:List lOp) (hl:l.length≤1048576):Ev (fun k=>Xaj.f k l) (l.map cOp):=by
 have c1:(0:Int)≤(l.length:Int):=by omega
 simp only[Xaj.f,c1,if_true,Int.toNat_natCast]
 refine Ev.pos (by omega) ?_
 refine fill_ev l cOp z69 (g:=fun k s i=>Xaj.l0 k l s i) ?_ ?_
 ·intro s hs
  refine Ev.shift ?_
  simp only[Xaj.l0,Int.lt_irrefl,if_false]
  exact Ev.now _
 ·intro s i x r hx hs hi h
  have hr:rd_T116 l (i:Int)=x:=getD_get hx
  refine Ev.shift ?_
  have d1:(i:Int)<(l.length:Int):=by omega
  have d2:(0:Int)≤(i:Int):=by omega
  have d3:(i:Int)<(s.length:Int):=by omega
  simp only[Xaj.l0,Xbe.f,Option.bind_some,d1,d2,d3,if_true,hr,Int.toNat_natCast,succ64 hi (by omega)]
  exact h
theorem eqOpS_ev (l:List iOp) (hl:l.length≤9223372036854775807):Ev (fun k=>XA.f k l l) true:=by
 simp only[XA.f,if_true]
 refine look_ev l true (g:=fun k i=>XA.l0 k l l i) ?_ ?_
 ·refine Ev.shift ?_
  simp only[XA.l0,Int.lt_irrefl,if_false]
  exact Ev.now _
 ·intro i x hx hi h
  refine Ev.shift ?_
  have d1:(i:Int)<(l.length:Int):=by omega
  have d2:(0:Int)≤(i:Int):=by omega
  simp only[XA.l0,XaM.f,bne_self_eq_false,Bool.false_eq_true,if_false,Option.bind_some,d1,d2,if_true,succ64 hi hl]
  exact h
abbrev iPair:=S172
theorem eqPairS_ev (l:List iPair) (hl:l.length≤9223372036854775807):Ev (fun k=>Xu.f k l l) true:=by
 simp only[Xu.f,if_true]
 refine look_ev l true (g:=fun k i=>Xu.l0 k l l i) ?_ ?_
 ·refine Ev.shift ?_
  simp only[Xu.l0,Int.lt_irrefl,if_false]
  exact Ev.now _
 ·intro i x hx hi h
  refine Ev.shift ?_
  have d1:(i:Int)<(l.length:Int):=by omega
  have d2:(0:Int)≤(i:Int):=by omega
  simp only[Xu.l0,Xa3.f,bne_self_eq_false,Bool.false_eq_true,if_false,Option.bind_some,d1,d2,if_true,succ64 hi hl]
  exact h
abbrev iHelp:=S174
theorem eqHelpS_ev (l:List iHelp) (hl:l.length≤9223372036854775807):Ev (fun k=>Xv.f k l l) true:=by
 simp only[Xv.f,if_true]
 refine look_ev l true (g:=fun k i=>Xv.l0 k l l i) ?_ ?_
 ·refine Ev.shift ?_
  simp only[Xv.l0,Int.lt_irrefl,if_false]
  exact Ev.now _
 ·intro i x hx hi h
  refine Ev.shift ?_
  have d1:(i:Int)<(l.length:Int):=by omega
  have d2:(0:Int)≤(i:Int):=by omega
  simp only[Xv.l0,Xa4.f,bne_self_eq_false,Bool.false_eq_true,if_false,Option.bind_some,d1,d2,if_true,succ64 hi hl]
  exact h
end Go.Proofs.YtmljebgideecjaaGreat.P2
namespace Go.Proofs.YtmljebgideecjaaGreat.P2
open Go.Proofs.YtmljebgideecjaaGreatZ Go.RowKit Go.Proofs.YtmljebgideecjaaGreatW.PrintWords Go.Proofs.YtmljebgideecjaaGreatW.PrintLast Go.Proofs.YtmljebgideecjaaGreatW.PrintMore
attribute [local go_sem] max2_int min2_int max_two min_two max_three min_three max_four min_four   -- for this text's walks alone


end Go.Proofs.YtmljebgideecjaaGreat.P2
