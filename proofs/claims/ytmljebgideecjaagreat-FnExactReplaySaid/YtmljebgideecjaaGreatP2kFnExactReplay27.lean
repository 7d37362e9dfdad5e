/- A part of the proof of the law FnExactReplay: texts of this seat, merged (words, printed functions of the program, plain lemmas). Conditions: none of its own. -/
import Derived.Test.YtmljebgideecjaaGreatP2kFnExactReplay20
import Derived.Test.YtmljebgideecjaaGreatP2kFnExactReplay22
set_option linter.unusedSimpArgs false
set_option linter.unusedVariables false
set_option maxHeartbeats 8000000
set_option maxRecDepth 100000
namespace Go.Proofs.YtmljebgideecjaaGreat.P2
open Go.Proofs.YtmljebgideecjaaGreatZ Go.RowKit Go.Proofs.YtmljebgideecjaaGreatW.PrintWords Go.Proofs.YtmljebgideecjaaGreatW.PrintLast Go.Proofs.YtmljebgideecjaaGreatW.PrintMore
attribute [local go_sem] max2_int min2_int max_two min_two max_three min_three max_four min_four   -- for this text's walks alone
def Xat.g (k:Nat) (l0:List (S140)) (l1:List (S162)) (l2:List (S97)) (l4:List (S73)) (l5:List Int) (l6:List Int) (a7 a1:Int):Option (Int × List (S140) × List (S162) × List (S97) × List (S73) × List Int × List Int):=(Xbn.f k l0 l1 a1).bind fun t1=>((Xag.f k l2 t1.1).bind fun t2=>((Xaq.f k l4 t2.1).bind fun t3=>((XX.f k l5 t3.1).bind fun t4=>((XaG.f k l6 a7 t4.1).bind fun t5=>(some (t5.1,t1.2.1,t1.2.2,t2.2,t3.2,t4.2,t5.2))))))
def Xat.f (k:Nat) (l0:List (S140)) (l1:List (S162)) (l2:List (S97)) (a3:Int) (l4:List (S73)) (l5:List Int) (l6:List Int) (a7 a1:Int):Option Int:=(Xat.g k l0 l1 l2 l4 l5 l6 a7 a1).bind fun t=>some t.1
theorem Xat.two (k:Nat) (okW okD okT okO okF:Nat→Prop) (vW vD vT vC vO vF:Value) (l0:List (S140)) (l1:List (S162)) (l2:List (S97)) (a3:Int) (l4:List (S73)) (l5:List Int) (l6:List Int) (a7 a1 r:Int) (w0 w:World) (hB:Below w0.heap.size w0 w)
  (hW:Kd.R k140 140 w w0.heap.size okW vW l0) (hTW:Two k162 k73 162 73 w w0.heap.size okD vD l1 vC l4) (hT:Kd.S k97 97 w w0.heap.size okT vT l2) (hO:Kd.R (Kd.int .i64) 3 w w0.heap.size okO vO l5) (hF:Kd.R (Kd.int .i64) 3 w w0.heap.size okF vF l6)
  (hDO:∀ k,okD k→some k ≠ vO.ownBlock) (hDF:∀ k,okD k→some k ≠ vF.ownBlock) (hOF:∀ k,okO k→some k ≠ vF.ownBlock) (H:Xat.f k l0 l1 l2 a3 l4 l5 l6 a7 a1=some r) :
  Calls Tryz.prog 27 #[.agg #[vW,vD,vT,.int .i64 a3,vC,vO,vF,.int .i64 a7],.int .i64 a1] w fun e w'=>∃ q0 q1 q2 q4 q5 q6,e = .returned (.int .i64 r)∧Kd.R k140 140 w' w0.heap.size okW vW q0∧Kd.S k162 162 w' w0.heap.size okD vD q1∧Kd.S k97 97 w' w0.heap.size okT vT q2∧Kd.S k73 73 w' w0.heap.size okD vC q4∧Kd.R (Kd.int .i64) 3 w' w0.heap.size okO vO q5∧Kd.R (Kd.int .i64) 3 w' w0.heap.size okF vF q6∧Below w0.heap.size w0 w' ∧
   Kept w w' (fun k=>Deep.Ty w k [140,97,69,172,174] ∨ (okD k ∨ some k=vO.ownBlock ∨ some k=vF.ownBlock)∧Deep.Ty w k [162,165,73,3]):=by
 have hu43:=Tryz.underlying43
 obtain⟨N,hD,hC⟩:=hTW
 have HW:=aM hW
 have HD:=aM (Deep.S_ty (l:=[162,165,3]) hD)
 have HT:=aM (Deep.S_ty (l:=[97,69,172,174]) hT)
 have HC:=aM (Deep.S_ty (l:=[73,3]) hC)
 have HO:=aM hO
 have HF:=aM hF
 have hWt:=aM (Deep.own_ty hW)
 have hOt:=aM (Deep.own_ty hO)
 have hFt:=aM (Deep.own_ty hF)
 have hoo:=aM (⟨hDO,hDF⟩:(∀ k,okD k→some k ≠ vO.ownBlock)∧(∀ k,okD k→some k ≠ vF.ownBlock))
 have hof:=aM (fun k (e:vO.ownBlock=some k)=>hOF k (hO.1 k e))
 have HB:=aM hB
 clear hB hW hD hT hC hO hF hDO hDF hOF
 unfold Xat.f Xat.g at H
 simp only[Option.bind_assoc] at H
 replace H:=bE H;obtain⟨⟨t1,u1,u2⟩,A1,H⟩:=H
 replace H:=bE H;obtain⟨⟨t2,u3⟩,A2,H⟩:=H
 replace H:=bE H;obtain⟨⟨t3,u4⟩,A3,H⟩:=H
 replace H:=bE H;obtain⟨⟨t4,u5⟩,A4,H⟩:=H
 replace H:=bE H;obtain⟨⟨t5,u6⟩,A5,H⟩:=H
 simp only[Option.bind_some,Option.some.injEq] at H
 subst H
 obtain⟨Ao0,co0,eo⟩:=Kd.R_slice HW.out
 subst eo
 obtain⟨Ao1,co1,eo⟩:=Kd.S_slice HD.out
 subst eo
 obtain⟨Ao2,co2,eo⟩:=Kd.S_slice HT.out
 subst eo
 obtain⟨Ao4,co4,eo⟩:=Kd.S_slice HC.out
 subst eo
 obtain⟨Ao5,co5,eo⟩:=Kd.R_slice HO.out
 subst eo
 obtain⟨Ao6,co6,eo⟩:=Kd.R_slice HF.out
 subst eo
 go_enter Tryz.func27,Tryz.ntmps27
 go_wp2_with (first | (refine boxE 2 #[.slice Ao0 l0.length co0,.slice Ao1 l1.length co1,.slice Ao2 l2.length co2,.int .i64 a3,.slice Ao4 l4.length co4,.slice Ao5 l5.length co5,.slice Ao6 l6.length co6,.int .i64 a7] 43 ?_;intro gbz1 hg wz1 hbox hb;have BK:=aM (hbox);replace HW:=aQ HW hb;replace HD:=aT HD hb;replace HT:=aT HT hb;replace HC:=aT HC hb;replace HO:=aQ HO hb;replace HF:=aQ HF hb;have HK:=aM (Kept.of_below hb (fun k=>Deep.Ty w k [140,97,69,172,174] ∨ (okD k ∨ some k=(Value.slice Ao5 l5.length co5).ownBlock ∨ some k=(Value.slice Ao6 l6.length co6).ownBlock)∧Deep.Ty w k [162,165,73,3]));have hgw:=aM (show w.heap.size≤gbz1 from Nat.le_of_eq hg.symm);replace HB:=aS HB hb;clear hb hbox hg;have hcz1:=cZ8 BK.out) | ((with_reducible refine gate_callee (f:=73) rfl ?_);refine goesM 73 8 Tryz.func73 #[.agg #[.slice Ao0 l0.length co0,.slice Ao1 l1.length co1],.int .i64 a1] ?_;refine(Xbn.calls k okW (fun k_=>(okD k_∧k_<N)∧Deep.Ty w k_ [162,165,3]) _ _ l0 l1 a1 t1 u1 u2 w0 _ HB.out HW.out HD.out A1.out).mono ?_;rintro e wz2 ⟨rfl,hw1,hd1,hb,hkp⟩;refine⟨_,rfl,?_⟩;replace BK:=aM (blk_kept BK.out hkp (fun e_=>Nat.not_lt.2 hgw.out (e_.elim (fun e_=>Deep.Ty_lt (hWt.out _ e_.symm)) (fun e_=>Deep.Ty_lt e_.2))));replace HK:=aM (Kept.then_ HK.out hkp (fun k_ e_ => .inl (e_.elim (fun e_ => .inl (Deep.Ty_sub (hWt.out k_ e_.symm))) (fun e_ => .inr ⟨.inl e_.1.1,Deep.Ty_sub e_.2⟩))));replace HT:=aM (Kd.S_kept HT.out hkp (fun k_ h_ e_=>e_.elim (fun e_=>Deep.Ty_no (l:=[140]) (hWt.out k_ e_.symm) h_.2 (by decide)) (fun e_=>Deep.Ty_no (l:=[97,69,172,174]) h_.2 e_.2 (by decide))));replace HC:=aM (Kd.S_kept HC.out hkp (fun k_ h_ e_=>e_.elim (fun e_=>Deep.Ty_no (l:=[140]) (hWt.out k_ e_.symm) h_.2 (by decide)) (fun e_=>Nat.lt_irrefl _ (Nat.lt_of_lt_of_le e_.1.2 h_.1.2))));replace HO:=aM (Kd.R_reok rfl (Kd.R_kept (Kd.R_tight rfl HO.out) hkp (fun k_ h_ e_=>e_.elim (fun e_=>Deep.Ty_no (l:=[3]) (hOt.out k_ h_.symm) (hWt.out k_ e_.symm) (by decide)) (fun e_=>hoo.out.1 k_ e_.1.1 h_))) (fun k_ e_=>HO.out.1 k_ e_));replace HF:=aM (Kd.R_reok rfl (Kd.R_kept (Kd.R_tight rfl HF.out) hkp (fun k_ h_ e_=>e_.elim (fun e_=>Deep.Ty_no (l:=[3]) (hFt.out k_ h_.symm) (hWt.out k_ e_.symm) (by decide)) (fun e_=>hoo.out.2 k_ e_.1.1 h_))) (fun k_ e_=>HF.out.1 k_ e_));replace HW:=aM hw1;replace HD:=aM hd1;replace HB:=aM hb;clear hb hkp hw1  hd1;have hcz_wz2:=cZ8 BK.out) | ((with_reducible refine gate_callee (f:=74) rfl ?_);refine goesM 74 12 Tryz.func74 #[.slice Ao2 l2.length co2,.int .i64 t1] ?_;refine(Xag.calls k (fun k_=>okT k_∧Deep.Ty w k_ [97,69,172,174]) _ l2 t1 t2 u3 w0 _ HB.out HT.out A2.out).mono ?_;rintro e wz3 ⟨rfl,hs1,hb,hkp⟩;refine⟨_,rfl,?_⟩;replace BK:=aM (blk_kept BK.out hkp (fun e_=>Nat.not_lt.2 hgw.out (Deep.Ty_lt e_.2)));replace HK:=aM (Kept.then_ HK.out hkp (fun k_ e_ => .inl (.inl (Deep.Ty_sub e_.2))));replace HW:=aM (Kd.R_reok rfl (Kd.R_kept (Kd.R_tight rfl HW.out) hkp (fun k_ h_ e_=>Deep.Ty_no (l:=[140]) (hWt.out k_ h_.symm) e_.2 (by decide))) (fun k_ e_=>HW.out.1 k_ e_));replace HD:=aM (Kd.S_kept HD.out hkp (fun k_ h_ e_=>Deep.Ty_no (l:=[162,165,3]) h_.2 e_.2 (by decide)));replace HC:=aM (Kd.S_kept HC.out hkp (fun k_ h_ e_=>Deep.Ty_no (l:=[73,3]) h_.2 e_.2 (by decide)));replace HO:=aM (Kd.R_reok rfl (Kd.R_kept (Kd.R_tight rfl HO.out) hkp (fun k_ h_ e_=>Deep.Ty_no (l:=[3]) (hOt.out k_ h_.symm) e_.2 (by decide))) (fun k_ e_=>HO.out.1 k_ e_));replace HF:=aM (Kd.R_reok rfl (Kd.R_kept (Kd.R_tight rfl HF.out) hkp (fun k_ h_ e_=>Deep.Ty_no (l:=[3]) (hFt.out k_ h_.symm) e_.2 (by decide))) (fun k_ e_=>HF.out.1 k_ e_));replace HT:=aM hs1;replace HB:=aM hb;clear hb hkp hs1;have hcz_wz3:=cZ8 BK.out) | ((with_reducible refine gate_callee (f:=75) rfl ?_);refine goesM 75 16 Tryz.func75 #[.slice Ao4 l4.length co4,.int .i64 t2] ?_;refine(Xaq.calls k (fun k_=>(okD k_∧N≤k_)∧Deep.Ty w k_ [73,3]) _ l4 t2 t3 u4 w0 _ HB.out HC.out A3.out).mono ?_;rintro e wz4 ⟨rfl,hs1,hb,hkp⟩;refine⟨_,rfl,?_⟩;replace BK:=aM (blk_kept BK.out hkp (fun e_=>Nat.not_lt.2 hgw.out (Deep.Ty_lt e_.2)));replace HK:=aM (Kept.then_ HK.out hkp (fun k_ e_ => .inl (.inr ⟨.inl e_.1.1,Deep.Ty_sub e_.2⟩)));replace HW:=aM (Kd.R_reok rfl (Kd.R_kept (Kd.R_tight rfl HW.out) hkp (fun k_ h_ e_=>Deep.Ty_no (l:=[140]) (hWt.out k_ h_.symm) e_.2 (by decide))) (fun k_ e_=>HW.out.1 k_ e_));replace HD:=aM (Kd.S_kept HD.out hkp (fun k_ h_ e_=>Nat.lt_irrefl _ (Nat.lt_of_lt_of_le h_.1.2 e_.1.2)));replace HT:=aM (Kd.S_kept HT.out hkp (fun k_ h_ e_=>Deep.Ty_no (l:=[97,69,172,174]) h_.2 e_.2 (by decide)));replace HO:=aM (Kd.R_reok rfl (Kd.R_kept (Kd.R_tight rfl HO.out) hkp (fun k_ h_ e_=>hoo.out.1 k_ e_.1.1 h_)) (fun k_ e_=>HO.out.1 k_ e_));replace HF:=aM (Kd.R_reok rfl (Kd.R_kept (Kd.R_tight rfl HF.out) hkp (fun k_ h_ e_=>hoo.out.2 k_ e_.1.1 h_)) (fun k_ e_=>HF.out.1 k_ e_));replace HC:=aM hs1;replace HB:=aM hb;clear hb hkp hs1;have hcz_wz4:=cZ8 BK.out) | ((with_reducible refine gate_callee (f:=71) rfl ?_);refine goesM 71 20 Tryz.func71 #[.slice Ao5 l5.length co5,.int .i64 t3] ?_;refine(XX.calls k (fun k_=>some k_=(Value.slice Ao5 l5.length co5).ownBlock) _ l5 t3 t4 u5 w0 _ HB.out (Kd.R_tight rfl HO.out) A4.out).mono ?_;rintro e wz5 ⟨rfl,hs1,hb,hkp⟩;refine⟨_,rfl,?_⟩;replace BK:=aM (blk_kept BK.out hkp (fun e_=>Nat.not_lt.2 hgw.out (Deep.Ty_lt (hOt.out _ e_.symm))));replace HK:=aM (Kept.then_ HK.out hkp (fun k_ e_ => .inl (.inr ⟨.inr (.inl e_),Deep.Ty_sub (hOt.out k_ e_.symm)⟩)));replace HW:=aM (Kd.R_reok rfl (Kd.R_kept (Kd.R_tight rfl HW.out) hkp (fun k_ h_ e_=>Deep.Ty_no (l:=[140]) (hWt.out k_ h_.symm) (hOt.out k_ e_.symm) (by decide))) (fun k_ e_=>HW.out.1 k_ e_));replace HD:=aM (Kd.S_kept HD.out hkp (fun k_ h_ e_=>hoo.out.1 k_ h_.1.1 e_));replace HT:=aM (Kd.S_kept HT.out hkp (fun k_ h_ e_=>Deep.Ty_no (l:=[3]) (hOt.out k_ e_.symm) h_.2 (by decide)));replace HC:=aM (Kd.S_kept HC.out hkp (fun k_ h_ e_=>hoo.out.1 k_ h_.1.1 e_));replace HF:=aM (Kd.R_reok rfl (Kd.R_kept (Kd.R_tight rfl HF.out) hkp (fun k_ h_ e_=>hof.out k_ e_.symm h_)) (fun k_ e_=>HF.out.1 k_ e_));replace HO:=aM (Kd.R_reok rfl hs1 (fun k_ e_=>HO.out.1 k_ e_));replace HB:=aM hb;clear hb hkp hs1;have hcz_wz5:=cZ8 BK.out) | ((with_reducible refine gate_callee (f:=25) rfl ?_);refine goesM 25 24 Tryz.func25 #[.agg #[.slice Ao6 l6.length co6,.int .i64 a7],.int .i64 t4] ?_;refine(XaG.calls k (fun k_=>some k_=(Value.slice Ao6 l6.length co6).ownBlock) _ l6 a7 t4 t5 u6 w0 _ HB.out (Kd.R_tight rfl HF.out) A5.out).mono ?_;rintro e wz6 ⟨rfl,hs1,hb,hkp⟩;refine⟨_,rfl,?_⟩;replace BK:=aM (blk_kept BK.out hkp (fun e_=>Nat.not_lt.2 hgw.out (Deep.Ty_lt (hFt.out _ e_.symm))));replace HK:=aM (Kept.then_ HK.out hkp (fun k_ e_ => .inl (.inr ⟨.inr (.inr e_),Deep.Ty_sub (hFt.out k_ e_.symm)⟩)));replace HW:=aM (Kd.R_reok rfl (Kd.R_kept (Kd.R_tight rfl HW.out) hkp (fun k_ h_ e_=>Deep.Ty_no (l:=[140]) (hWt.out k_ h_.symm) (hFt.out k_ e_.symm) (by decide))) (fun k_ e_=>HW.out.1 k_ e_));replace HD:=aM (Kd.S_kept HD.out hkp (fun k_ h_ e_=>hoo.out.2 k_ h_.1.1 e_));replace HT:=aM (Kd.S_kept HT.out hkp (fun k_ h_ e_=>Deep.Ty_no (l:=[3]) (hFt.out k_ e_.symm) h_.2 (by decide)));replace HC:=aM (Kd.S_kept HC.out hkp (fun k_ h_ e_=>hoo.out.2 k_ h_.1.1 e_));replace HO:=aM (Kd.R_reok rfl (Kd.R_kept (Kd.R_tight rfl HO.out) hkp (fun k_ h_ e_=>hof.out k_ h_.symm e_)) (fun k_ e_=>HO.out.1 k_ e_));replace HF:=aM (Kd.R_reok rfl hs1 (fun k_ e_=>HF.out.1 k_ e_));replace HB:=aM hb;clear hb hkp hs1))
 go_ret
 exact⟨rE,⟨u1,HW.out⟩,⟨u2,Kd.S_mono HD.out (fun _ hk=>hk.1.1)⟩,⟨u3,Kd.S_mono HT.out (fun _ hk=>hk.1)⟩,⟨u4,Kd.S_mono HC.out (fun _ hk=>hk.1.1)⟩,⟨u5,HO.out⟩,⟨u6,HF.out⟩,HB.out,HK.out⟩
def Xy.l0:Nat→List (S162)→List (S162)→Int→Option (Bool)
 | 0,_,_,_=>none
 | k+1,x0,x1,x5=>if x5<(x0.length:Int) then (if 0≤x5 then (if x5<(x1.length:Int) then ((XaY.f k ((rd_T162 x0 x5).f0) ((rd_T162 x0 x5).f1) ((rd_T162 x0 x5).f2) ((rd_T162 x0 x5).f3.f0) ((rd_T162 x0 x5).f3.f1) ((rd_T162 x1 x5).f0) ((rd_T162 x1 x5).f1) ((rd_T162 x1 x5).f2) ((rd_T162 x1 x5).f3.f0) ((rd_T162 x1 x5).f3.f1)).bind fun t103=>(if t103=true then (Xy.l0 k x0 x1 (wrap64 (x5+1))) else (some false))) else (none)) else (none)) else (some true)
def Xy.f (k:Nat) (l0:List (S162)) (l1:List (S162)):Option (Bool):=if (l0.length:Int)=(l1.length:Int) then (Xy.l0 k l0 l1 0) else (some false)
def Xy.T6:Bool × List (List Nat × List Nat):=(true,[([],[]),([],[]),([0,1],[0,1]),([2],[2]),([],[]),([],[]),([4,5],[4,5]),([6],[6]),([3,7],[3,7]),([8],[8])])
def Xy.B6:List Nat:=[0,0,3,7,0,0,48,112,255,511]
theorem Xy.tab6:rtab .any (opsOf Tryz.f110 6)=Xy.T6:=by kernel_rfl
theorem Xy.bits6:waitsOk Xy.T6.2 Xy.B6=true:=by kernel_rfl
theorem Xy.calls (k:Nat) (A0:Option Addr) (c0:Nat) (l0:List (S162)) (A1:Option Addr) (c1:Nat) (l1:List (S162)) (r:Bool) (w:World) (h0:Rw k162 w A0 c0 l0) (h1:Rw k162 w A1 c1 l1) (H:Xy.f k l0 l1=some r) :
  Calls Tryz.prog 110 #[.slice A0 l0.length c0,.slice A1 l1.length c1] w fun e w'=>e = .returned (.bool r)∧Below w.heap.size w w':=by
 have hu162:=Tryz.underlying162
 obtain⟨HR0,HC0⟩:=h0
 obtain⟨HR1,HC1⟩:=h1
 have HB:=aM (Below.refl w.heap.size w)
 unfold Xy.f at H
 go_enter Tryz.func110,Tryz.ntmps110
 by_cases c3:(l0.length:Int)=(l1.length:Int)
 case neg =>
  rw[if_neg c3] at H
  obtain⟨c3b0,c3b1⟩:=eqF c3
  have c3b2:(l0.length == l1.length)=false:=by first | simpa using c3 | (simp at c3 ⊢;omega)
  exact fR
 rw[if_pos c3] at H
 obtain⟨c3b0,c3b1⟩:=eqT c3
 have c3b2:(l0.length == l1.length)=true:=by first | simpa using c3 | (simp at c3 ⊢;omega)
 clear c3
 have H':=aM H
 clear H
 go_wp2
 go_loopg [5] k (fun kq v5 w'=>∃ (x5_1:Int),v5 = .int .i64 x5_1∧Aside0 (Xy.l0 kq l0 l1 x5_1=some r)∧Aside0 (kq≤k)∧Aside0 (Below w.heap.size w w'))
 case atStart=>exact⟨(0),rS,H',⟨Nat.le_refl _⟩,⟨(hX HB.out)⟩⟩
 case round =>
  clear H'
  try clear c3
  try clear c3b0
  try clear c3b1
  try clear c3b2
  obtain⟨x5_1,rfl,HA,HKy1,HB⟩:=hrel
  cases gk with
  | zero=>exact absurd HA.out (by simp[Xy.l0])
  | succ k1 =>
   have H:=HA.out
   clear HA
   simp only[Xy.l0] at H
   revert H;refine iN ?_ ?_<;>intro c4b0 H
   ·obtain rfl:=sI H
    exact fS
   replace H:=ifQ H;obtain⟨c5b0,H⟩:=H
   replace H:=ifQ H;obtain⟨c6b0,H⟩:=H
   replace H:=bE H;obtain⟨t103,A7,H⟩:=H
   try go_wp2
   obtain⟨adx1,Ax1,cx1,Ax2,cx2,ex1,px1,qx1,hxx1,HCx1,HRx1,HCx2,HRx2⟩:=at_T162c HR0 HB x5_1
   cases ex1
   obtain⟨adx2,Ax3,cx3,Ax4,cx4,ex2,px2,qx2,hxx6,HCx3,HRx3,HCx4,HRx4⟩:=at_T162c HR1 HB x5_1
   cases ex2
   refine sR0 10 Xy.tab6 Xy.bits6 (fun HT_ HW_ hHeld => ?_)
   refine zA 0 ?_
   refine zA 1 ?_
   refine zA 2 ?_
   refine zA 4 ?_
   refine zA 5 ?_
   refine zA 6 ?_
   refine tA 3 ?_
   refine tA 7 ?_
   cases t103
   case false =>
    rw[if_neg nft] at H
    obtain rfl:=sI H
    refine eB 8 Tryz.func187 (XaY.calls k1 ((rd_T162 l0 x5_1).f0) ((rd_T162 l0 x5_1).f1) _ _ ((rd_T162 l0 x5_1).f2) ((rd_T162 l0 x5_1).f3.f0) _ _ ((rd_T162 l0 x5_1).f3.f1) ((rd_T162 l1 x5_1).f0) ((rd_T162 l1 x5_1).f1) _ _ ((rd_T162 l1 x5_1).f2) ((rd_T162 l1 x5_1).f3.f0) _ _ ((rd_T162 l1 x5_1).f3.f1) false _ (rW HRx1 HB HCx1) (rW HRx2 HB HCx2) (rW HRx3 HB HCx3) (rW HRx4 HB HCx4) A7.out) (fun wx2 hb hHeld => ?_)
    replace HB:=aS HB hb
    (try clear hb)
    refine zA 9 ?_
    refine dA ?_
    try go_wp2
    go_ret
    exact⟨rE,(hX HB.out)⟩
   rw[if_pos rfl] at H
   have H':=aM H
   clear H
   refine eB 8 Tryz.func187 (XaY.calls k1 ((rd_T162 l0 x5_1).f0) ((rd_T162 l0 x5_1).f1) _ _ ((rd_T162 l0 x5_1).f2) ((rd_T162 l0 x5_1).f3.f0) _ _ ((rd_T162 l0 x5_1).f3.f1) ((rd_T162 l1 x5_1).f0) ((rd_T162 l1 x5_1).f1) _ _ ((rd_T162 l1 x5_1).f2) ((rd_T162 l1 x5_1).f3.f0) _ _ ((rd_T162 l1 x5_1).f3.f1) true _ (rW HRx1 HB HCx1) (rW HRx2 HB HCx2) (rW HRx3 HB HCx3) (rW HRx4 HB HCx4) A7.out) (fun wx2 hb hHeld => ?_)
   replace HB:=aS HB hb
   (try clear hb)
   refine zA 9 ?_
   refine dA ?_
   try go_wp2
   go_roundg k1
   case measure=>have:=HKy1.out;omega
   case rel=>exact⟨(wrap64 (x5_1+1)),rS,H',⟨by have:=HKy1.out;omega⟩,⟨(hX HB.out)⟩⟩
def Xr.l0:Nat→List (S97)→List (S97)→Int→Option (Bool)
 | 0,_,_,_=>none
 | k+1,x0,x1,x5=>if x5<(x0.length:Int) then (if 0≤x5 then (if x5<(x1.length:Int) then ((XaO.f k ((rd_T97 x0 x5).f0) ((rd_T97 x0 x5).f1) ((rd_T97 x0 x5).f2) ((rd_T97 x0 x5).f3) ((rd_T97 x0 x5).f4) ((rd_T97 x1 x5).f0) ((rd_T97 x1 x5).f1) ((rd_T97 x1 x5).f2) ((rd_T97 x1 x5).f3) ((rd_T97 x1 x5).f4)).bind fun t103=>(if t103=true then (Xr.l0 k x0 x1 (wrap64 (x5+1))) else (some false))) else (none)) else (none)) else (some true)
def Xr.f (k:Nat) (l0:List (S97)) (l1:List (S97)):Option (Bool):=if (l0.length:Int)=(l1.length:Int) then (Xr.l0 k l0 l1 0) else (some false)
def Xr.T6:Bool × List (List Nat × List Nat):=(true,[([],[]),([],[]),([0,1],[0,1]),([2],[2]),([],[]),([],[]),([4,5],[4,5]),([6],[6]),([3,7],[3,7]),([8],[8])])
def Xr.B6:List Nat:=[0,0,3,7,0,0,48,112,255,511]
theorem Xr.tab6:rtab .any (opsOf Tryz.f51 6)=Xr.T6:=by kernel_rfl
theorem Xr.bits6:waitsOk Xr.T6.2 Xr.B6=true:=by kernel_rfl
theorem Xr.calls (k:Nat) (A0:Option Addr) (c0:Nat) (l0:List (S97)) (A1:Option Addr) (c1:Nat) (l1:List (S97)) (r:Bool) (w:World) (h0:Rw k97 w A0 c0 l0) (h1:Rw k97 w A1 c1 l1) (H:Xr.f k l0 l1=some r) :
  Calls Tryz.prog 51 #[.slice A0 l0.length c0,.slice A1 l1.length c1] w fun e w'=>e = .returned (.bool r)∧Below w.heap.size w w':=by
 have hu97:=Tryz.underlying97
 obtain⟨HR0,HC0⟩:=h0
 obtain⟨HR1,HC1⟩:=h1
 have HB:=aM (Below.refl w.heap.size w)
 unfold Xr.f at H
 go_enter Tryz.func51,Tryz.ntmps51
 by_cases c3:(l0.length:Int)=(l1.length:Int)
 case neg =>
  rw[if_neg c3] at H
  obtain⟨c3b0,c3b1⟩:=eqF c3
  have c3b2:(l0.length == l1.length)=false:=by first | simpa using c3 | (simp at c3 ⊢;omega)
  exact fR
 rw[if_pos c3] at H
 obtain⟨c3b0,c3b1⟩:=eqT c3
 have c3b2:(l0.length == l1.length)=true:=by first | simpa using c3 | (simp at c3 ⊢;omega)
 clear c3
 have H':=aM H
 clear H
 go_wp2
 go_loopg [5] k (fun kq v5 w'=>∃ (x5_1:Int),v5 = .int .i64 x5_1∧Aside0 (Xr.l0 kq l0 l1 x5_1=some r)∧Aside0 (kq≤k)∧Aside0 (Below w.heap.size w w'))
 case atStart=>exact⟨(0),rS,H',⟨Nat.le_refl _⟩,⟨(hX HB.out)⟩⟩
 case round =>
  clear H'
  try clear c3
  try clear c3b0
  try clear c3b1
  try clear c3b2
  obtain⟨x5_1,rfl,HA,HKy1,HB⟩:=hrel
  cases gk with
  | zero=>exact absurd HA.out (by simp[Xr.l0])
  | succ k1 =>
   have H:=HA.out
   clear HA
   simp only[Xr.l0] at H
   revert H;refine iN ?_ ?_<;>intro c4b0 H
   ·obtain rfl:=sI H
    exact fS
   replace H:=ifQ H;obtain⟨c5b0,H⟩:=H
   replace H:=ifQ H;obtain⟨c6b0,H⟩:=H
   replace H:=bE H;obtain⟨t103,A7,H⟩:=H
   try go_wp2
   obtain⟨adx1,Ax1,cx1,Ax2,cx2,Ax3,cx3,ex1,px1,qx1,hxx1,HCx1,HRx1,HCx2,HRx2,HCx3,HRx3⟩:=at_T97c HR0 HB x5_1
   cases ex1
   obtain⟨adx2,Ax4,cx4,Ax5,cx5,Ax6,cx6,ex2,px2,qx2,hxx6,HCx4,HRx4,HCx5,HRx5,HCx6,HRx6⟩:=at_T97c HR1 HB x5_1
   cases ex2
   refine sR0 10 Xr.tab6 Xr.bits6 (fun HT_ HW_ hHeld => ?_)
   refine zA 0 ?_
   refine zA 1 ?_
   refine zA 2 ?_
   refine zA 4 ?_
   refine zA 5 ?_
   refine zA 6 ?_
   refine tA 3 ?_
   refine tA 7 ?_
   cases t103
   case false =>
    rw[if_neg nft] at H
    obtain rfl:=sI H
    refine eB 8 Tryz.func111 (XaO.calls k1 _ _ ((rd_T97 l0 x5_1).f0) ((rd_T97 l0 x5_1).f1) ((rd_T97 l0 x5_1).f2) _ _ ((rd_T97 l0 x5_1).f3) _ _ ((rd_T97 l0 x5_1).f4) _ _ ((rd_T97 l1 x5_1).f0) ((rd_T97 l1 x5_1).f1) ((rd_T97 l1 x5_1).f2) _ _ ((rd_T97 l1 x5_1).f3) _ _ ((rd_T97 l1 x5_1).f4) false _ (rW HRx1 HB HCx1) (rW HRx2 HB HCx2) (rW HRx3 HB HCx3) (rW HRx4 HB HCx4) (rW HRx5 HB HCx5) (rW HRx6 HB HCx6) A7.out) (fun wx2 hb hHeld => ?_)
    replace HB:=aS HB hb
    (try clear hb)
    refine zA 9 ?_
    refine dA ?_
    try go_wp2
    go_ret
    exact⟨rE,(hX HB.out)⟩
   rw[if_pos rfl] at H
   have H':=aM H
   clear H
   refine eB 8 Tryz.func111 (XaO.calls k1 _ _ ((rd_T97 l0 x5_1).f0) ((rd_T97 l0 x5_1).f1) ((rd_T97 l0 x5_1).f2) _ _ ((rd_T97 l0 x5_1).f3) _ _ ((rd_T97 l0 x5_1).f4) _ _ ((rd_T97 l1 x5_1).f0) ((rd_T97 l1 x5_1).f1) ((rd_T97 l1 x5_1).f2) _ _ ((rd_T97 l1 x5_1).f3) _ _ ((rd_T97 l1 x5_1).f4) true _ (rW HRx1 HB HCx1) (rW HRx2 HB HCx2) (rW HRx3 HB HCx3) (rW HRx4 HB HCx4) (rW HRx5 HB HCx5) (rW HRx6 HB HCx6) A7.out) (fun wx2 hb hHeld => ?_)
   replace HB:=aS HB hb
   (try clear hb)
   refine zA 9 ?_
   refine dA ?_
   try go_wp2
   go_roundg k1
   case measure=>have:=HKy1.out;omega
   case rel=>exact⟨(wrap64 (x5_1+1)),rS,H',⟨by have:=HKy1.out;omega⟩,⟨(hX HB.out)⟩⟩
def Xz.l0:Nat→List (S73)→List (S73)→Int→Option (Bool)
 | 0,_,_,_=>none
 | k+1,x0,x1,x5=>if x5<(x0.length:Int) then (if 0≤x5 then (if x5<(x1.length:Int) then ((XaZ.f k ((rd_T73 x0 x5).f0) ((rd_T73 x0 x5).f1.f0) ((rd_T73 x0 x5).f1.f1) ((rd_T73 x0 x5).f1.f2) ((rd_T73 x0 x5).f2) ((rd_T73 x0 x5).f3) ((rd_T73 x0 x5).f4) ((rd_T73 x0 x5).f5.f0) ((rd_T73 x0 x5).f5.f1) ((rd_T73 x1 x5).f0) ((rd_T73 x1 x5).f1.f0) ((rd_T73 x1 x5).f1.f1) ((rd_T73 x1 x5).f1.f2) ((rd_T73 x1 x5).f2) ((rd_T73 x1 x5).f3) ((rd_T73 x1 x5).f4) ((rd_T73 x1 x5).f5.f0) ((rd_T73 x1 x5).f5.f1)).bind fun t103=>(if t103=true then (Xz.l0 k x0 x1 (wrap64 (x5+1))) else (some false))) else (none)) else (none)) else (some true)
def Xz.f (k:Nat) (l0:List (S73)) (l1:List (S73)):Option (Bool):=if (l0.length:Int)=(l1.length:Int) then (Xz.l0 k l0 l1 0) else (some false)
def Xz.T6:Bool × List (List Nat × List Nat):=(true,[([],[]),([],[]),([0,1],[0,1]),([2],[2]),([],[]),([],[]),([4,5],[4,5]),([6],[6]),([3,7],[3,7]),([8],[8])])
def Xz.B6:List Nat:=[0,0,3,7,0,0,48,112,255,511]
theorem Xz.tab6:rtab .any (opsOf Tryz.f52 6)=Xz.T6:=by kernel_rfl
theorem Xz.bits6:waitsOk Xz.T6.2 Xz.B6=true:=by kernel_rfl
theorem Xz.calls (k:Nat) (A0:Option Addr) (c0:Nat) (l0:List (S73)) (A1:Option Addr) (c1:Nat) (l1:List (S73)) (r:Bool) (w:World) (h0:Rw k73 w A0 c0 l0) (h1:Rw k73 w A1 c1 l1) (H:Xz.f k l0 l1=some r) :
  Calls Tryz.prog 52 #[.slice A0 l0.length c0,.slice A1 l1.length c1] w fun e w'=>e = .returned (.bool r)∧Below w.heap.size w w':=by
 have hu73:=Tryz.underlying73
 obtain⟨HR0,HC0⟩:=h0
 obtain⟨HR1,HC1⟩:=h1
 have HB:=aM (Below.refl w.heap.size w)
 unfold Xz.f at H
 go_enter Tryz.func52,Tryz.ntmps52
 by_cases c3:(l0.length:Int)=(l1.length:Int)
 case neg =>
  rw[if_neg c3] at H
  obtain⟨c3b0,c3b1⟩:=eqF c3
  have c3b2:(l0.length == l1.length)=false:=by first | simpa using c3 | (simp at c3 ⊢;omega)
  exact fR
 rw[if_pos c3] at H
 obtain⟨c3b0,c3b1⟩:=eqT c3
 have c3b2:(l0.length == l1.length)=true:=by first | simpa using c3 | (simp at c3 ⊢;omega)
 clear c3
 have H':=aM H
 clear H
 go_wp2
 go_loopg [5] k (fun kq v5 w'=>∃ (x5_1:Int),v5 = .int .i64 x5_1∧Aside0 (Xz.l0 kq l0 l1 x5_1=some r)∧Aside0 (kq≤k)∧Aside0 (Below w.heap.size w w'))
 case atStart=>exact⟨(0),rS,H',⟨Nat.le_refl _⟩,⟨(hX HB.out)⟩⟩
 case round =>
  clear H'
  try clear c3
  try clear c3b0
  try clear c3b1
  try clear c3b2
  obtain⟨x5_1,rfl,HA,HKy1,HB⟩:=hrel
  cases gk with
  | zero=>exact absurd HA.out (by simp[Xz.l0])
  | succ k1 =>
   have H:=HA.out
   clear HA
   simp only[Xz.l0] at H
   revert H;refine iN ?_ ?_<;>intro c4b0 H
   ·obtain rfl:=sI H
    exact fS
   replace H:=ifQ H;obtain⟨c5b0,H⟩:=H
   replace H:=ifQ H;obtain⟨c6b0,H⟩:=H
   replace H:=bE H;obtain⟨t103,A7,H⟩:=H
   try go_wp2
   obtain⟨adx1,Ax1,cx1,ex1,px1,qx1,hxx1,HCx1,HRx1⟩:=at_T73c HR0 HB x5_1
   cases ex1
   obtain⟨adx2,Ax2,cx2,ex2,px2,qx2,hxx10,HCx2,HRx2⟩:=at_T73c HR1 HB x5_1
   cases ex2
   refine sR0 10 Xz.tab6 Xz.bits6 (fun HT_ HW_ hHeld => ?_)
   refine zA 0 ?_
   refine zA 1 ?_
   refine zA 2 ?_
   refine zA 4 ?_
   refine zA 5 ?_
   refine zA 6 ?_
   refine tA 3 ?_
   refine tA 7 ?_
   cases t103
   case false =>
    rw[if_neg nft] at H
    obtain rfl:=sI H
    refine eB 8 Tryz.func112 (XaZ.calls k1 ((rd_T73 l0 x5_1).f0) ((rd_T73 l0 x5_1).f1.f0) ((rd_T73 l0 x5_1).f1.f1) ((rd_T73 l0 x5_1).f1.f2) ((rd_T73 l0 x5_1).f2) ((rd_T73 l0 x5_1).f3) ((rd_T73 l0 x5_1).f4) ((rd_T73 l0 x5_1).f5.f0) _ _ ((rd_T73 l0 x5_1).f5.f1) ((rd_T73 l1 x5_1).f0) ((rd_T73 l1 x5_1).f1.f0) ((rd_T73 l1 x5_1).f1.f1) ((rd_T73 l1 x5_1).f1.f2) ((rd_T73 l1 x5_1).f2) ((rd_T73 l1 x5_1).f3) ((rd_T73 l1 x5_1).f4) ((rd_T73 l1 x5_1).f5.f0) _ _ ((rd_T73 l1 x5_1).f5.f1) false _ (rW HRx1 HB HCx1) (rW HRx2 HB HCx2) A7.out) (fun wx2 hb hHeld => ?_)
    replace HB:=aS HB hb
    (try clear hb)
    refine zA 9 ?_
    refine dA ?_
    try go_wp2
    go_ret
    exact⟨rE,(hX HB.out)⟩
   rw[if_pos rfl] at H
   have H':=aM H
   clear H
   refine eB 8 Tryz.func112 (XaZ.calls k1 ((rd_T73 l0 x5_1).f0) ((rd_T73 l0 x5_1).f1.f0) ((rd_T73 l0 x5_1).f1.f1) ((rd_T73 l0 x5_1).f1.f2) ((rd_T73 l0 x5_1).f2) ((rd_T73 l0 x5_1).f3) ((rd_T73 l0 x5_1).f4) ((rd_T73 l0 x5_1).f5.f0) _ _ ((rd_T73 l0 x5_1).f5.f1) ((rd_T73 l1 x5_1).f0) ((rd_T73 l1 x5_1).f1.f0) ((rd_T73 l1 x5_1).f1.f1) ((rd_T73 l1 x5_1).f1.f2) ((rd_T73 l1 x5_1).f2) ((rd_T73 l1 x5_1).f3) ((rd_T73 l1 x5_1).f4) ((rd_T73 l1 x5_1).f5.f0) _ _ ((rd_T73 l1 x5_1).f5.f1) true _ (rW HRx1 HB HCx1) (rW HRx2 HB HCx2) A7.out) (fun wx2 hb hHeld => ?_)
   replace HB:=aS HB hb
   (try clear hb)
   refine zA 9 ?_
   refine dA ?_
   try go_wp2
   go_roundg k1
   case measure=>have:=HKy1.out;omega
   case rel=>exact⟨(wrap64 (x5_1+1)),rS,H',⟨by have:=HKy1.out;omega⟩,⟨(hX HB.out)⟩⟩
def Xa0.f (k:Nat) (l0_0:List (S140)) (l0_1:List (S162)) (l0_2:List (S97)) (a0_3:Int) (l0_4:List (S73)) (l0_5:List Int) (l0_6:List Int) (a0_7:Int) (a1_0:Int) (a1_1:Int) (a1_2:Int) (a1_3:Int) (a1_4:Int) (a1_5:Int) (a1_6:Int) (a1_7:Int) (l1_8:List Int):Option (Bool):=(Xb.f a1_0 0 (wrap64 ((l0_2.length:Int) - 1))).bind fun t103=>(if t103=true then ((XN.f k a1_1 a1_2 a1_3).bind fun t104=>(if t104=true then ((Xb.f a1_4 0 a0_3).bind fun t105=>(if t105=true then (if a1_5=(-1) then (if a1_6=(-1) then (some true) else ((Xb.f a1_6 a1_4 a0_3).bind fun t106=>(some t106))) else ((Xb.f a1_5 a1_4 a0_3).bind fun t107=>(if t107=true then (if a1_6=(-1) then (some true) else ((Xb.f a1_6 a1_4 a0_3).bind fun t108=>(some t108))) else (some false)))) else (some false))) else (some false))) else (some false))
theorem Xa0.calls (k:Nat) (A0_0:Option Addr) (c0_0:Nat) (l0_0:List (S140)) (A0_1:Option Addr) (c0_1:Nat) (l0_1:List (S162)) (A0_2:Option Addr) (c0_2:Nat) (l0_2:List (S97)) (a0_3:Int) (A0_4:Option Addr) (c0_4:Nat) (l0_4:List (S73)) (A0_5:Option Addr) (c0_5:Nat) (l0_5:List Int) (A0_6:Option Addr) (c0_6:Nat) (l0_6:List Int) (a0_7:Int) (a1_0:Int) (a1_1:Int) (a1_2:Int) (a1_3:Int) (a1_4:Int) (a1_5:Int) (a1_6:Int) (a1_7:Int) (A1_8:Option Addr) (c1_8:Nat) (l1_8:List Int) (r:Bool) (w:World) (h0_0:Rw k140 w A0_0 c0_0 l0_0) (h0_1:Rw k162 w A0_1 c0_1 l0_1) (h0_2:Rw k97 w A0_2 c0_2 l0_2) (h0_4:Rw k73 w A0_4 c0_4 l0_4) (h0_5:Rw (Kd.int .i64) w A0_5 c0_5 l0_5) (h0_6:Rw (Kd.int .i64) w A0_6 c0_6 l0_6) (h1_8:Rw (Kd.int .i64) w A1_8 c1_8 l1_8) (H:Xa0.f k l0_0 l0_1 l0_2 a0_3 l0_4 l0_5 l0_6 a0_7 a1_0 a1_1 a1_2 a1_3 a1_4 a1_5 a1_6 a1_7 l1_8=some r) :
  Calls Tryz.prog 161 #[.agg #[.slice A0_0 l0_0.length c0_0,.slice A0_1 l0_1.length c0_1,.slice A0_2 l0_2.length c0_2,.int .i64 a0_3,.slice A0_4 l0_4.length c0_4,.slice A0_5 l0_5.length c0_5,.slice A0_6 l0_6.length c0_6,.int .i64 a0_7],.agg #[.int .i64 a1_0,.int .i64 a1_1,.int .i64 a1_2,.int .i64 a1_3,.int .i64 a1_4,.int .i64 a1_5,.int .i64 a1_6,.int .i64 a1_7,.slice A1_8 l1_8.length c1_8]] w fun e w'=>e = .returned (.bool r)∧Below w.heap.size w w':=by
 have hu43:=Tryz.underlying43
 have hu73:=Tryz.underlying73
 have hu69:=Tryz.underlying69
 obtain⟨HR0_0,HC0_0⟩:=h0_0
 obtain⟨HR0_1,HC0_1⟩:=h0_1
 obtain⟨HR0_2,HC0_2⟩:=h0_2
 obtain⟨HR0_4,HC0_4⟩:=h0_4
 obtain⟨HR0_5,HC0_5⟩:=h0_5
 obtain⟨HR0_6,HC0_6⟩:=h0_6
 obtain⟨HR1_8,HC1_8⟩:=h1_8
 have HB:=aM (Below.refl w.heap.size w)
 unfold Xa0.f at H
 replace H:=bE H;obtain⟨t103,A3,H⟩:=H
 go_enter Tryz.func161,Tryz.ntmps161
 go_wp2_with (first | ((with_reducible refine gate_dst (N:=2) rfl ?_);refine boxE 2 #[.slice A0_0 l0_0.length c0_0,.slice A0_1 l0_1.length c0_1,.slice A0_2 l0_2.length c0_2,.int .i64 a0_3,.slice A0_4 l0_4.length c0_4,.slice A0_5 l0_5.length c0_5,.slice A0_6 l0_6.length c0_6,.int .i64 a0_7] 43 ?_;intro gbz1 hg wz1 hbox hb;have BKz1:=aM (hbox);have GWz1:=aG hg HB;replace HB:=aS HB hb;clear hb hbox hg) | ((with_reducible refine gate_dst (N:=3) rfl ?_);refine boxE 3 #[.int .i64 a1_0,.int .i64 a1_1,.int .i64 a1_2,.int .i64 a1_3,.int .i64 a1_4,.int .i64 a1_5,.int .i64 a1_6,.int .i64 a1_7,.slice A1_8 l1_8.length c1_8] 73 ?_;intro gbz2 hg wz2 hbox hb;have BKz2:=aM (hbox);have GWz2:=aG hg HB;have NBz1:=aL hg BKz1;have NBz2:=aR hg BKz1;replace BKz1:=aB BKz1 hb;replace HB:=aS HB hb;clear hb hbox hg;have hnbz1:=nB NBz2 NBz1;have hczz1:=cZ9 BKz2.out;have hczz10:=cZ8 BKz1.out;refine Stop.out ?_))
 refine⟨?_⟩
 cases t103
 case false =>
  rw[if_neg nft] at H
  obtain rfl:=sI H
  go_wp2_with ((with_reducible refine gate_callee (f:=43) rfl ?_);refine gD 43 11 Tryz.func43 (Xb.calls _ _ _ _ _ A3.out) ?_;intro nd)
  go_ret
  exact⟨rE,(hX HB.out)⟩
 rw[if_pos rfl] at H
 replace H:=bE H;obtain⟨t104,A5,H⟩:=H
 go_wp2_with ((with_reducible refine gate_callee (f:=43) rfl ?_);refine gD 43 11 Tryz.func43 (Xb.calls _ _ _ _ _ A3.out) ?_;intro nd;refine Stop.out ?_)
 refine⟨?_⟩
 cases t104
 case false =>
  rw[if_neg nft] at H
  obtain rfl:=sI H
  go_wp2_with (go_at_call 138;(with_reducible refine(XN.calls _ _ _ _ _ _ A5.out).mono ?_);rintro e wz3 ⟨rfl,hb⟩;replace BKz1:=aB BKz1 hb;replace BKz2:=aB BKz2 hb;replace HB:=aS HB hb;clear hb)
  go_ret
  exact⟨rE,(hX HB.out)⟩
 rw[if_pos rfl] at H
 replace H:=bE H;obtain⟨t105,A7,H⟩:=H
 go_wp2_with (go_at_call 138;(with_reducible refine(XN.calls _ _ _ _ _ _ A5.out).mono ?_);rintro e wz3 ⟨rfl,hb⟩;replace BKz1:=aB BKz1 hb;replace BKz2:=aB BKz2 hb;replace HB:=aS HB hb;clear hb;have hczz18:=cZ9 BKz2.out;have hczz27:=cZ8 BKz1.out;refine Stop.out ?_)
 refine⟨?_⟩
 cases t105
 case false =>
  rw[if_neg nft] at H
  obtain rfl:=sI H
  go_wp2_with (go_at_call 43;(with_reducible refine(Xb.calls _ _ _ _ _ A7.out).mono ?_);rintro e w' ⟨rfl,⟨nd,rfl⟩⟩)
  go_ret
  exact⟨rE,(hX HB.out)⟩
 rw[if_pos rfl] at H
 go_wp2_with (go_at_call 43;(with_reducible refine(Xb.calls _ _ _ _ _ A7.out).mono ?_);rintro e w' ⟨rfl,⟨nd,rfl⟩⟩;refine Stop.out ?_)
 refine⟨?_⟩
 revert H;refine eP ?_ ?_<;>intro c9b0 c9b1 H
 ·revert H;refine eP ?_ ?_<;>intro c10b0 c10b1 H
  ·obtain rfl:=sI H
   exact fS
  replace H:=bE H;obtain⟨t106,A19,H⟩:=H
  obtain rfl:=sI H
  go_wp2_with (go_at_call 43;(with_reducible refine(Xb.calls _ _ _ _ _ A19.out).mono ?_);rintro e w' ⟨rfl,⟨nd,rfl⟩⟩)
  go_ret
  exact⟨rE,(hX HB.out)⟩
 replace H:=bE H;obtain⟨t107,A28,H⟩:=H
 cases t107
 case false =>
  rw[if_neg nft] at H
  obtain rfl:=sI H
  go_wp2_with (go_at_call 43;(with_reducible refine(Xb.calls _ _ _ _ _ A28.out).mono ?_);rintro e w' ⟨rfl,⟨nd,rfl⟩⟩)
  go_ret
  exact⟨rE,(hX HB.out)⟩
 rw[if_pos rfl] at H
 go_wp2_with (go_at_call 43;(with_reducible refine(Xb.calls _ _ _ _ _ A28.out).mono ?_);rintro e w' ⟨rfl,⟨nd,rfl⟩⟩;refine Stop.out ?_)
 refine⟨?_⟩
 revert H;refine eP ?_ ?_<;>intro c30b0 c30b1 H
 ·obtain rfl:=sI H
  exact fS
 replace H:=bE H;obtain⟨t108,A39,H⟩:=H
 obtain rfl:=sI H
 go_wp2_with (go_at_call 43;(with_reducible refine(Xb.calls _ _ _ _ _ A39.out).mono ?_);rintro e w' ⟨rfl,⟨nd,rfl⟩⟩)
 go_ret
 exact⟨rE,(hX HB.out)⟩
end Go.Proofs.YtmljebgideecjaaGreat.P2
