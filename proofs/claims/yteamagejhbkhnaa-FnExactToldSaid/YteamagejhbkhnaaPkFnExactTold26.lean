/- A part of the proof of the law FnExactTold: texts of this seat, merged (words, printed functions of the program, plain lemmas). Conditions: none of its own. -/
import Derived.Test.YteamagejhbkhnaaPkFnExactTold25
set_option linter.unusedSimpArgs false
set_option linter.unusedVariables false
set_option maxHeartbeats 8000000
set_option maxRecDepth 100000
namespace Go.Proofs.Yteamagejhbkhnaa.P
open Go.Proofs.YteamagejhbkhnaaZ Go.RowKit Go.Proofs.YteamagejhbkhnaaW.PrintWords Go.Proofs.YteamagejhbkhnaaW.PrintLast Go.Proofs.YteamagejhbkhnaaW.PrintMore
attribute [local go_sem] max2_int min2_int max_two min_two max_three min_three max_four min_four   -- for this text's walks alone
def XI.g (k:Nat) (l0:List (S170)) (l1:List (S175)) (l2:List (S146)) (l4:List (S59)) (l5:List Int) (l6:List Int) (a7 a1:Int):Option (Int × List (S170) × List (S175) × List (S146) × List (S59) × List Int × List Int):=(Xal.f k l0 l1 a1).bind fun t1=>((Xl.f k l2 t1.1).bind fun t2=>((Xo.f k l4 t2.1).bind fun t3=>((Xh.f k l5 t3.1).bind fun t4=>((X7.f k l6 a7 t4.1).bind fun t5=>(some (t5.1,t1.2.1,t1.2.2,t2.2,t3.2,t4.2,t5.2))))))
def XI.f (k:Nat) (l0:List (S170)) (l1:List (S175)) (l2:List (S146)) (a3:Int) (l4:List (S59)) (l5:List Int) (l6:List Int) (a7 a1:Int):Option Int:=(XI.g k l0 l1 l2 l4 l5 l6 a7 a1).bind fun t=>some t.1
theorem XI.two (k:Nat) (okW okD okT okO okF:Nat→Prop) (vW vD vT vC vO vF:Value) (l0:List (S170)) (l1:List (S175)) (l2:List (S146)) (a3:Int) (l4:List (S59)) (l5:List Int) (l6:List Int) (a7 a1 r:Int) (w0 w:World) (hB:Below w0.heap.size w0 w)
  (hW:Kd.R k170 170 w w0.heap.size okW vW l0) (hTW:Two k175 k59 175 59 w w0.heap.size okD vD l1 vC l4) (hT:Kd.S k146 146 w w0.heap.size okT vT l2) (hO:Kd.R (Kd.int .i64) 3 w w0.heap.size okO vO l5) (hF:Kd.R (Kd.int .i64) 3 w w0.heap.size okF vF l6)
  (hDO:∀ k,okD k→some k ≠ vO.ownBlock) (hDF:∀ k,okD k→some k ≠ vF.ownBlock) (hOF:∀ k,okO k→some k ≠ vF.ownBlock) (H:XI.f k l0 l1 l2 a3 l4 l5 l6 a7 a1=some r) :
  Calls Try.prog 71 #[.agg #[vW,vD,vT,.int .i64 a3,vC,vO,vF,.int .i64 a7],.int .i64 a1] w fun e w'=>∃ q0 q1 q2 q4 q5 q6,e = .returned (.int .i64 r)∧Kd.R k170 170 w' w0.heap.size okW vW q0∧Kd.S k175 175 w' w0.heap.size okD vD q1∧Kd.S k146 146 w' w0.heap.size okT vT q2∧Kd.S k59 59 w' w0.heap.size okD vC q4∧Kd.R (Kd.int .i64) 3 w' w0.heap.size okO vO q5∧Kd.R (Kd.int .i64) 3 w' w0.heap.size okF vF q6∧Below w0.heap.size w0 w' ∧
   Kept w w' (fun k=>Deep.Ty w k [170,146,56,187,189] ∨ (okD k ∨ some k=vO.ownBlock ∨ some k=vF.ownBlock)∧Deep.Ty w k [175,200,59,3]):=by
 have hu43:=Try.underlying87
 obtain⟨N,hD,hC⟩:=hTW
 have HW:=aM hW
 have HD:=aM (Deep.S_ty (l:=[175,200,3]) hD)
 have HT:=aM (Deep.S_ty (l:=[146,56,187,189]) hT)
 have HC:=aM (Deep.S_ty (l:=[59,3]) hC)
 have HO:=aM hO
 have HF:=aM hF
 have hWt:=aM (Deep.own_ty hW)
 have hOt:=aM (Deep.own_ty hO)
 have hFt:=aM (Deep.own_ty hF)
 have hoo:=aM (⟨hDO,hDF⟩:(∀ k,okD k→some k ≠ vO.ownBlock)∧(∀ k,okD k→some k ≠ vF.ownBlock))
 have hof:=aM (fun k (e:vO.ownBlock=some k)=>hOF k (hO.1 k e))
 have HB:=aM hB
 clear hB hW hD hT hC hO hF hDO hDF hOF
 unfold XI.f XI.g at H
 simp only[Option.bind_assoc] at H
 replace H:=bE H;obtain⟨⟨t1,u1,u2⟩,A1,H⟩:=H
 replace H:=bE H;obtain⟨⟨t2,u3⟩,A2,H⟩:=H
 replace H:=bE H;obtain⟨⟨t3,u4⟩,A3,H⟩:=H
 replace H:=bE H;obtain⟨⟨t4,u5⟩,A4,H⟩:=H
 replace H:=bE H;obtain⟨⟨t5,u6⟩,A5,H⟩:=H
 simp only[Option.bind_some,Option.some.injEq] at H
 subst H
 obtain⟨Ao0,co0,eo⟩:=Kd.R_slice HW.out
 subst eo
 obtain⟨Ao1,co1,eo⟩:=Kd.S_slice HD.out
 subst eo
 obtain⟨Ao2,co2,eo⟩:=Kd.S_slice HT.out
 subst eo
 obtain⟨Ao4,co4,eo⟩:=Kd.S_slice HC.out
 subst eo
 obtain⟨Ao5,co5,eo⟩:=Kd.R_slice HO.out
 subst eo
 obtain⟨Ao6,co6,eo⟩:=Kd.R_slice HF.out
 subst eo
 go_enter Try.func71,Try.ntmps71
 go_wp2_with (first | (refine boxE 2 #[.slice Ao0 l0.length co0,.slice Ao1 l1.length co1,.slice Ao2 l2.length co2,.int .i64 a3,.slice Ao4 l4.length co4,.slice Ao5 l5.length co5,.slice Ao6 l6.length co6,.int .i64 a7] 87 ?_;intro gbz1 hg wz1 hbox hb;have BK:=aM (hbox);replace HW:=aQ HW hb;replace HD:=aT HD hb;replace HT:=aT HT hb;replace HC:=aT HC hb;replace HO:=aQ HO hb;replace HF:=aQ HF hb;have HK:=aM (Kept.of_below hb (fun k=>Deep.Ty w k [170,146,56,187,189] ∨ (okD k ∨ some k=(Value.slice Ao5 l5.length co5).ownBlock ∨ some k=(Value.slice Ao6 l6.length co6).ownBlock)∧Deep.Ty w k [175,200,59,3]));have hgw:=aM (show w.heap.size≤gbz1 from Nat.le_of_eq hg.symm);replace HB:=aS HB hb;clear hb hbox hg;have hcz1:=cZ8 BK.out) | ((with_reducible refine gate_callee (f:=122) rfl ?_);refine goesM 122 8 Try.func122 #[.agg #[.slice Ao0 l0.length co0,.slice Ao1 l1.length co1],.int .i64 a1] ?_;refine(Xal.calls k okW (fun k_=>(okD k_∧k_<N)∧Deep.Ty w k_ [175,200,3]) _ _ l0 l1 a1 t1 u1 u2 w0 _ HB.out HW.out HD.out A1.out).mono ?_;rintro e wz2 ⟨rfl,hw1,hd1,hb,hkp⟩;refine⟨_,rfl,?_⟩;replace BK:=aM (blk_kept BK.out hkp (fun e_=>Nat.not_lt.2 hgw.out (e_.elim (fun e_=>Deep.Ty_lt (hWt.out _ e_.symm)) (fun e_=>Deep.Ty_lt e_.2))));replace HK:=aM (Kept.then_ HK.out hkp (fun k_ e_ => .inl (e_.elim (fun e_ => .inl (Deep.Ty_sub (hWt.out k_ e_.symm))) (fun e_ => .inr ⟨.inl e_.1.1,Deep.Ty_sub e_.2⟩))));replace HT:=aM (Kd.S_kept HT.out hkp (fun k_ h_ e_=>e_.elim (fun e_=>Deep.Ty_no (l:=[170]) (hWt.out k_ e_.symm) h_.2 (by decide)) (fun e_=>Deep.Ty_no (l:=[146,56,187,189]) h_.2 e_.2 (by decide))));replace HC:=aM (Kd.S_kept HC.out hkp (fun k_ h_ e_=>e_.elim (fun e_=>Deep.Ty_no (l:=[170]) (hWt.out k_ e_.symm) h_.2 (by decide)) (fun e_=>Nat.lt_irrefl _ (Nat.lt_of_lt_of_le e_.1.2 h_.1.2))));replace HO:=aM (Kd.R_reok rfl (Kd.R_kept (Kd.R_tight rfl HO.out) hkp (fun k_ h_ e_=>e_.elim (fun e_=>Deep.Ty_no (l:=[3]) (hOt.out k_ h_.symm) (hWt.out k_ e_.symm) (by decide)) (fun e_=>hoo.out.1 k_ e_.1.1 h_))) (fun k_ e_=>HO.out.1 k_ e_));replace HF:=aM (Kd.R_reok rfl (Kd.R_kept (Kd.R_tight rfl HF.out) hkp (fun k_ h_ e_=>e_.elim (fun e_=>Deep.Ty_no (l:=[3]) (hFt.out k_ h_.symm) (hWt.out k_ e_.symm) (by decide)) (fun e_=>hoo.out.2 k_ e_.1.1 h_))) (fun k_ e_=>HF.out.1 k_ e_));replace HW:=aM hw1;replace HD:=aM hd1;replace HB:=aM hb;clear hb hkp hw1  hd1;have hcz_wz2:=cZ8 BK.out) | ((with_reducible refine gate_callee (f:=123) rfl ?_);refine goesM 123 12 Try.func123 #[.slice Ao2 l2.length co2,.int .i64 t1] ?_;refine(Xl.calls k (fun k_=>okT k_∧Deep.Ty w k_ [146,56,187,189]) _ l2 t1 t2 u3 w0 _ HB.out HT.out A2.out).mono ?_;rintro e wz3 ⟨rfl,hs1,hb,hkp⟩;refine⟨_,rfl,?_⟩;replace BK:=aM (blk_kept BK.out hkp (fun e_=>Nat.not_lt.2 hgw.out (Deep.Ty_lt e_.2)));replace HK:=aM (Kept.then_ HK.out hkp (fun k_ e_ => .inl (.inl (Deep.Ty_sub e_.2))));replace HW:=aM (Kd.R_reok rfl (Kd.R_kept (Kd.R_tight rfl HW.out) hkp (fun k_ h_ e_=>Deep.Ty_no (l:=[170]) (hWt.out k_ h_.symm) e_.2 (by decide))) (fun k_ e_=>HW.out.1 k_ e_));replace HD:=aM (Kd.S_kept HD.out hkp (fun k_ h_ e_=>Deep.Ty_no (l:=[175,200,3]) h_.2 e_.2 (by decide)));replace HC:=aM (Kd.S_kept HC.out hkp (fun k_ h_ e_=>Deep.Ty_no (l:=[59,3]) h_.2 e_.2 (by decide)));replace HO:=aM (Kd.R_reok rfl (Kd.R_kept (Kd.R_tight rfl HO.out) hkp (fun k_ h_ e_=>Deep.Ty_no (l:=[3]) (hOt.out k_ h_.symm) e_.2 (by decide))) (fun k_ e_=>HO.out.1 k_ e_));replace HF:=aM (Kd.R_reok rfl (Kd.R_kept (Kd.R_tight rfl HF.out) hkp (fun k_ h_ e_=>Deep.Ty_no (l:=[3]) (hFt.out k_ h_.symm) e_.2 (by decide))) (fun k_ e_=>HF.out.1 k_ e_));replace HT:=aM hs1;replace HB:=aM hb;clear hb hkp hs1;have hcz_wz3:=cZ8 BK.out) | ((with_reducible refine gate_callee (f:=72) rfl ?_);refine goesM 72 16 Try.func72 #[.slice Ao4 l4.length co4,.int .i64 t2] ?_;refine(Xo.calls k (fun k_=>(okD k_∧N≤k_)∧Deep.Ty w k_ [59,3]) _ l4 t2 t3 u4 w0 _ HB.out HC.out A3.out).mono ?_;rintro e wz4 ⟨rfl,hs1,hb,hkp⟩;refine⟨_,rfl,?_⟩;replace BK:=aM (blk_kept BK.out hkp (fun e_=>Nat.not_lt.2 hgw.out (Deep.Ty_lt e_.2)));replace HK:=aM (Kept.then_ HK.out hkp (fun k_ e_ => .inl (.inr ⟨.inl e_.1.1,Deep.Ty_sub e_.2⟩)));replace HW:=aM (Kd.R_reok rfl (Kd.R_kept (Kd.R_tight rfl HW.out) hkp (fun k_ h_ e_=>Deep.Ty_no (l:=[170]) (hWt.out k_ h_.symm) e_.2 (by decide))) (fun k_ e_=>HW.out.1 k_ e_));replace HD:=aM (Kd.S_kept HD.out hkp (fun k_ h_ e_=>Nat.lt_irrefl _ (Nat.lt_of_lt_of_le h_.1.2 e_.1.2)));replace HT:=aM (Kd.S_kept HT.out hkp (fun k_ h_ e_=>Deep.Ty_no (l:=[146,56,187,189]) h_.2 e_.2 (by decide)));replace HO:=aM (Kd.R_reok rfl (Kd.R_kept (Kd.R_tight rfl HO.out) hkp (fun k_ h_ e_=>hoo.out.1 k_ e_.1.1 h_)) (fun k_ e_=>HO.out.1 k_ e_));replace HF:=aM (Kd.R_reok rfl (Kd.R_kept (Kd.R_tight rfl HF.out) hkp (fun k_ h_ e_=>hoo.out.2 k_ e_.1.1 h_)) (fun k_ e_=>HF.out.1 k_ e_));replace HC:=aM hs1;replace HB:=aM hb;clear hb hkp hs1;have hcz_wz4:=cZ8 BK.out) | ((with_reducible refine gate_callee (f:=18) rfl ?_);refine goesM 18 20 Try.func18 #[.slice Ao5 l5.length co5,.int .i64 t3] ?_;refine(Xh.calls k (fun k_=>some k_=(Value.slice Ao5 l5.length co5).ownBlock) _ l5 t3 t4 u5 w0 _ HB.out (Kd.R_tight rfl HO.out) A4.out).mono ?_;rintro e wz5 ⟨rfl,hs1,hb,hkp⟩;refine⟨_,rfl,?_⟩;replace BK:=aM (blk_kept BK.out hkp (fun e_=>Nat.not_lt.2 hgw.out (Deep.Ty_lt (hOt.out _ e_.symm))));replace HK:=aM (Kept.then_ HK.out hkp (fun k_ e_ => .inl (.inr ⟨.inr (.inl e_),Deep.Ty_sub (hOt.out k_ e_.symm)⟩)));replace HW:=aM (Kd.R_reok rfl (Kd.R_kept (Kd.R_tight rfl HW.out) hkp (fun k_ h_ e_=>Deep.Ty_no (l:=[170]) (hWt.out k_ h_.symm) (hOt.out k_ e_.symm) (by decide))) (fun k_ e_=>HW.out.1 k_ e_));replace HD:=aM (Kd.S_kept HD.out hkp (fun k_ h_ e_=>hoo.out.1 k_ h_.1.1 e_));replace HT:=aM (Kd.S_kept HT.out hkp (fun k_ h_ e_=>Deep.Ty_no (l:=[3]) (hOt.out k_ e_.symm) h_.2 (by decide)));replace HC:=aM (Kd.S_kept HC.out hkp (fun k_ h_ e_=>hoo.out.1 k_ h_.1.1 e_));replace HF:=aM (Kd.R_reok rfl (Kd.R_kept (Kd.R_tight rfl HF.out) hkp (fun k_ h_ e_=>hof.out k_ e_.symm h_)) (fun k_ e_=>HF.out.1 k_ e_));replace HO:=aM (Kd.R_reok rfl hs1 (fun k_ e_=>HO.out.1 k_ e_));replace HB:=aM hb;clear hb hkp hs1;have hcz_wz5:=cZ8 BK.out) | ((with_reducible refine gate_callee (f:=19) rfl ?_);refine goesM 19 24 Try.func19 #[.agg #[.slice Ao6 l6.length co6,.int .i64 a7],.int .i64 t4] ?_;refine(X7.calls k (fun k_=>some k_=(Value.slice Ao6 l6.length co6).ownBlock) _ l6 a7 t4 t5 u6 w0 _ HB.out (Kd.R_tight rfl HF.out) A5.out).mono ?_;rintro e wz6 ⟨rfl,hs1,hb,hkp⟩;refine⟨_,rfl,?_⟩;replace BK:=aM (blk_kept BK.out hkp (fun e_=>Nat.not_lt.2 hgw.out (Deep.Ty_lt (hFt.out _ e_.symm))));replace HK:=aM (Kept.then_ HK.out hkp (fun k_ e_ => .inl (.inr ⟨.inr (.inr e_),Deep.Ty_sub (hFt.out k_ e_.symm)⟩)));replace HW:=aM (Kd.R_reok rfl (Kd.R_kept (Kd.R_tight rfl HW.out) hkp (fun k_ h_ e_=>Deep.Ty_no (l:=[170]) (hWt.out k_ h_.symm) (hFt.out k_ e_.symm) (by decide))) (fun k_ e_=>HW.out.1 k_ e_));replace HD:=aM (Kd.S_kept HD.out hkp (fun k_ h_ e_=>hoo.out.2 k_ h_.1.1 e_));replace HT:=aM (Kd.S_kept HT.out hkp (fun k_ h_ e_=>Deep.Ty_no (l:=[3]) (hFt.out k_ e_.symm) h_.2 (by decide)));replace HC:=aM (Kd.S_kept HC.out hkp (fun k_ h_ e_=>hoo.out.2 k_ h_.1.1 e_));replace HO:=aM (Kd.R_reok rfl (Kd.R_kept (Kd.R_tight rfl HO.out) hkp (fun k_ h_ e_=>hof.out k_ h_.symm e_)) (fun k_ e_=>HO.out.1 k_ e_));replace HF:=aM (Kd.R_reok rfl hs1 (fun k_ e_=>HF.out.1 k_ e_));replace HB:=aM hb;clear hb hkp hs1))
 go_ret
 exact⟨rE,⟨u1,HW.out⟩,⟨u2,Kd.S_mono HD.out (fun _ hk=>hk.1.1)⟩,⟨u3,Kd.S_mono HT.out (fun _ hk=>hk.1)⟩,⟨u4,Kd.S_mono HC.out (fun _ hk=>hk.1.1)⟩,⟨u5,HO.out⟩,⟨u6,HF.out⟩,HB.out,HK.out⟩
end Go.Proofs.Yteamagejhbkhnaa.P
