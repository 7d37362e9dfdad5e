/- A part of the proof of the law FnExactTold: texts of this seat, merged (words, printed functions of the program, plain lemmas). Conditions: none of its own. -/
import Derived.Test.YteamagejhbkhnaaPkFnExactTold20
import Derived.Test.YteamagejhbkhnaaPkFnExactTold21
set_option linter.unusedSimpArgs false
set_option linter.unusedVariables false
set_option maxHeartbeats 8000000
set_option maxRecDepth 100000
namespace Go.Proofs.Yteamagejhbkhnaa.P
open Go.Proofs.YteamagejhbkhnaaZ Go.RowKit Go.Proofs.YteamagejhbkhnaaW.PrintWords Go.Proofs.YteamagejhbkhnaaW.PrintLast Go.Proofs.YteamagejhbkhnaaW.PrintMore
attribute [local go_sem] max2_int min2_int max_two min_two max_three min_three max_four min_four   -- for this text's walks alone
def Xz.l0:Nat→List (S175)→Int→Int→Option (Int × (List (S175)))
 | 0,_,_,_=>none
 | k+1,x0,x1,x5=>if x5<(x0.length:Int) then (if 0≤x5 then ((Xr.f k (rd_T175 x0 x5).f2 (wrap64 ((wrap64 (x1+1))+1))).bind fun t1=>((Xh.f k (rd_T175 x0 x5).f3.f1 (wrap64 (t1.1+1))).bind fun t2=>(Xz.l0 k (x0.set (x5:Int).toNat (⟨x1,wrap64 (x1+1),t1.2,⟨t1.1,t2.2⟩⟩:S175)) t2.1 (wrap64 (x5+1))))) else (none)) else (some (x1,x0))
def Xz.f (k:Nat) (l0:List (S175)) (a1:Int):Option (Int × (List (S175))):=Xz.l0 k l0 a1 0
theorem Xz.calls (k:Nat) (P0_:Nat→Prop) (u9000_:Value) (l0:List (S175)) (a1:Int) (r1:Int) (r2:List (S175)) (w0 w:World) (hB:Below w0.heap.size w0 w) (ho0:Kd.S k175 175 w w0.heap.size P0_ u9000_ l0) (h:Xz.f k l0 a1=some (r1,r2)) :
  Calls Try.prog 148 #[u9000_,.int .i64 a1] w fun e w'=>e = .returned (.int .i64 r1)∧Kd.S k175 175 w' w0.heap.size P0_ u9000_ r2∧Below w0.heap.size w0 w'∧Kept w w' (fun k_=>P0_ k_):=by
 have HO0:=Aside0.mk ho0
 have HK:=aM (Kept.refl w (fun k_=>P0_ k_))
 have HB:=Aside0.mk hB
 clear hB ho0
 have H':=aM (show Xz.l0 k l0 a1 0=some (r1,r2) from h)
 clear h
 go_enter Try.func148,Try.ntmps148
 go_wp2
 go_loopg [1,5] k (fun kq v1 v5 w'=>∃ (x0:List (S175)) (x1:Int) (x5:Int),v1 = .int .i64 x1∧v5 = .int .i64 x5∧Aside0 (Xz.l0 kq x0 x1 x5=some (r1,r2))∧Aside0 (kq≤k)∧Aside0 (Kd.S k175 175 w' w0.heap.size P0_ u9000_ x0)∧Aside0 (Kept w w' (fun k_=>P0_ k_))∧Aside0 (Below w0.heap.size w0 w'))
 case atStart=>exact⟨l0,a1,0,(by first | rfl | (simp;done) | (simp[*];done)),(by first | rfl | (simp;done) | (simp[*];done)),H',⟨Nat.le_refl _⟩,HO0,HK,HB⟩
 case round =>
  clear H'
  try clear p2
  obtain⟨x0,x1,x5,rfl,rfl,HA,HK1,HO,HK,HB⟩:=hrel
  cases gk with
  | zero=>exact absurd HA.out (by simp[Xz.l0])
  | succ k1 =>
   have H:=HA.out
   clear HA
   simp only[Xz.l0] at H
   by_cases c3:x5<(x0.length:Int)
   ·rw[if_pos c3] at H
    have hq0:=Aside0.mk c3
    have c3b0:decide (x5<(x0.length:Int))=true:=decide_eq_true c3
    by_cases c4:0≤x5
    ·rw[if_pos c4] at H
     have hp0:=Aside0.mk c4
     have c4b0:decide (0≤x5)=true:=decide_eq_true c4
     obtain⟨t1,At1,H⟩:=Option.bind_eq_some_iff.mp H
     replace At1:=Aside0.mk At1
     obtain⟨t2,At2,H⟩:=Option.bind_eq_some_iff.mp H
     replace At2:=Aside0.mk At2
     have H':=Aside0.mk H
     clear H
     obtain⟨go,co,eo,gb,gl,cl,HG⟩:=Kd.S_form HO.out (by omega)
     subst eo
     have GB:=Aside0.mk gb
     clear gb gl HG
     have HM:=aM (show P0_ go from ((Kd.S_R HO.out).1 _ rfl))
     obtain⟨oki,ce,hcl,hM,hcc,hfr,hoki,hH⟩:=Kd.S_elem HO.out z175 x5 c4 c3
     obtain⟨vr2,vr4,rfl,hL2,hL4⟩:=k175_openM hM
     have hok:=Aside0.mk hoki
     have HH:=Aside0.mk hH
     have HL2:=aM (show Kd.R k200 200 wr w0.heap.size oki vr2 (rd_T175 x0 x5).f2 from hL2)
     have HL4:=aM (show Kd.R (Kd.int .i64) 3 wr w0.heap.size oki vr4 (rd_T175 x0 x5).f3.f1 from hL4)
     have hx0:wr.cell? ⟨go,x5.toNat * 5,none⟩=some (.int .i64 (rd_T175 x0 x5).f0):=(Deep.H_facts HH.out hp0.out hq0.out).1 0 _ rfl
     have hz0:wr.frozen? ⟨go,x5.toNat * 5,none⟩=false:=(Deep.H_facts HH.out hp0.out hq0.out).2 0
     clear hcl hM hcc hfr hoki hH hL2 hL4
     clear HO
     replace c3:=eq_true c3
     replace c4:=eq_true c4
     go_wp2_with (first | ((with_reducible refine gate_store (t:=3) (p:=16) rfl ?_);refine store_event (t:=3) (p:=16) (v:=?vo_wz1) (w1:=(wr.setCell ⟨go,x5.toNat * 5,none⟩ (.int .i64 x1))) ?hg ?ho ?hn ?hr ?_;(case ho=>rfl);(case hg=>rfl);(case hn=>rfl);(case hr=>first | (go_simp;done) | (go_simp;rfl));intro wz1 hw;have hp_:=Deep.H_put HH.out hp0.out hq0.out 0 (.int .i64 x1) (by decide) rfl;have hg:wr.grownBy wz1 (some go):=(by rw[hw];exact hp_.2);have n0_:=aM (show Kd.H k175 175 wz1 w0.heap.size P0_ (.slice (some ⟨go,0,none⟩) x0.length co) x0 x5 oki [.int .i64 x1,.int .i64 (rd_T175 x0 x5).f1,vr2,.int .i64 (rd_T175 x0 x5).f3.f0,vr4] from by rw[hw];exact hp_.1);have n1_:=aM (show Below w0.heap.size w0 wz1 from by rw[hw];exact below_set HB.out GB.out);have n2_:=aM (Kept.of_grown (S:=(fun k_=>P0_ k_)) hg HK.out (fun k_ e_ => .inl ((Option.some.inj e_) ▸ HM.out)));replace HL2:=aM (Kd.R_grown HL2.out hg (fun k_ hk_ e_=>(hok.out k_ hk_).2 (Option.some.inj e_)));replace HL4:=aM (Kd.R_grown HL4.out hg (fun k_ hk_ e_=>(hok.out k_ hk_).2 (Option.some.inj e_)));clear HH HB HK hp_ hg hw;have HH:=n0_;have HB:=n1_;have HK:=n2_;clear n0_ n1_ n2_;have hx1:wz1.cell? ⟨go,x5.toNat * 5+1,none⟩=some (.int .i64 (rd_T175 x0 x5).f1):=(Deep.H_facts HH.out hp0.out hq0.out).1 1 _ rfl;have hz1:wz1.frozen? ⟨go,x5.toNat * 5+1,none⟩=false:=(Deep.H_facts HH.out hp0.out hq0.out).2 1) | ((with_reducible refine gate_store (t:=3) (p:=23) rfl ?_);refine store_event (t:=3) (p:=23) (v:=?vo_wz2) (w1:=(wz1.setCell ⟨go,x5.toNat * 5+1,none⟩ (.int .i64 (wrap64 (x1+1))))) ?hg ?ho ?hn ?hr ?_;(case ho=>rfl);(case hg=>rfl);(case hn=>rfl);(case hr=>first | (go_simp;done) | (go_simp;rfl));intro wz2 hw;have hp_:=Deep.H_put HH.out hp0.out hq0.out 1 (.int .i64 (wrap64 (x1+1))) (by decide) rfl;have hg:wz1.grownBy wz2 (some go):=(by rw[hw];exact hp_.2);have n0_:=aM (show Kd.H k175 175 wz2 w0.heap.size P0_ (.slice (some ⟨go,0,none⟩) x0.length co) x0 x5 oki [.int .i64 x1,.int .i64 (wrap64 (x1+1)),vr2,.int .i64 (rd_T175 x0 x5).f3.f0,vr4] from by rw[hw];exact hp_.1);have n1_:=aM (show Below w0.heap.size w0 wz2 from by rw[hw];exact below_set HB.out GB.out);have n2_:=aM (Kept.of_grown (S:=(fun k_=>P0_ k_)) hg HK.out (fun k_ e_ => .inl ((Option.some.inj e_) ▸ HM.out)));replace HL2:=aM (Kd.R_grown HL2.out hg (fun k_ hk_ e_=>(hok.out k_ hk_).2 (Option.some.inj e_)));replace HL4:=aM (Kd.R_grown HL4.out hg (fun k_ hk_ e_=>(hok.out k_ hk_).2 (Option.some.inj e_)));clear HH HB HK hp_ hg hw;have HH:=n0_;have HB:=n1_;have HK:=n2_;clear n0_ n1_ n2_;have hx2:wz2.cell? ⟨go,x5.toNat * 5+2,none⟩=some (vr2):=(Deep.H_facts HH.out hp0.out hq0.out).1 2 _ rfl) | ((with_reducible refine gate_callee (f:=174) rfl ?_);refine goesL_ (some 32) rfl rfl Try.func174 (by kernel_rfl) rfl #[vr2,.int .i64 (wrap64 ((wrap64 (x1+1))+1))] rfl (by (try simp only[List.map_toArray,List.map_cons,List.map_nil]);first | done | rfl | (simp only[List.length_drop,List.length_take];rfl)) ?_;(with_reducible refine(Xr.calls k1 (fun k_=>some k_=(vr2:Value).ownBlock) vr2 ((rd_T175 x0 x5).f2) (wrap64 ((wrap64 (x1+1))+1)) t1.1 t1.2 w0 _ HB.out (Kd.R_tight rfl HL2.out) At1.out).mono ?_);rintro e wz3 ⟨rfl,hy0,hb,hkp⟩;refine⟨_,rfl,?_⟩;have n0_:=aM (Kd.H_kept HH.out hkp (fun k_ _ hn_ e_=>hn_ (HL2.out.1 k_ e_.symm)));have n2_:=aM (Kept.then_ (S:=(fun k_=>P0_ k_)) HK.out hkp (fun k_ e_ => .inl (hok.out k_ (HL2.out.1 k_ e_.symm)).1));replace HL4:=aM (Deep.R_other HL4.out rfl HL2.out (by decide) hkp);replace HL2:=aM (Kd.R_reok rfl hy0 (fun k_ e_=>HL2.out.1 k_ e_));clear HH HB HK hkp hy0;have HH:=n0_;have HB:=Aside0.mk hb;have HK:=n2_;clear n0_ n2_ hb;have hx3:wz3.cell? ⟨go,x5.toNat * 5+3,none⟩=some (.int .i64 (rd_T175 x0 x5).f3.f0):=(Deep.H_facts HH.out hp0.out hq0.out).1 3 _ rfl;have hz3:wz3.frozen? ⟨go,x5.toNat * 5+3,none⟩=false:=(Deep.H_facts HH.out hp0.out hq0.out).2 3) | ((with_reducible refine gate_store (t:=3) (p:=38) rfl ?_);refine store_event (t:=3) (p:=38) (v:=?vo_wz4) (w1:=(wz3.setCell ⟨go,x5.toNat * 5+3,none⟩ (.int .i64 t1.1))) ?hg ?ho ?hn ?hr ?_;(case ho=>rfl);(case hg=>rfl);(case hn=>rfl);(case hr=>first | (go_simp;done) | (go_simp;rfl));intro wz4 hw;have hp_:=Deep.H_put HH.out hp0.out hq0.out 3 (.int .i64 t1.1) (by decide) rfl;have hg:wz3.grownBy wz4 (some go):=(by rw[hw];exact hp_.2);have n0_:=aM (show Kd.H k175 175 wz4 w0.heap.size P0_ (.slice (some ⟨go,0,none⟩) x0.length co) x0 x5 oki [.int .i64 x1,.int .i64 (wrap64 (x1+1)),vr2,.int .i64 t1.1,vr4] from by rw[hw];exact hp_.1);have n1_:=aM (show Below w0.heap.size w0 wz4 from by rw[hw];exact below_set HB.out GB.out);have n2_:=aM (Kept.of_grown (S:=(fun k_=>P0_ k_)) hg HK.out (fun k_ e_ => .inl ((Option.some.inj e_) ▸ HM.out)));replace HL2:=aM (Kd.R_grown HL2.out hg (fun k_ hk_ e_=>(hok.out k_ hk_).2 (Option.some.inj e_)));replace HL4:=aM (Kd.R_grown HL4.out hg (fun k_ hk_ e_=>(hok.out k_ hk_).2 (Option.some.inj e_)));clear HH HB HK hp_ hg hw;have HH:=n0_;have HB:=n1_;have HK:=n2_;clear n0_ n1_ n2_;have hx4:wz4.cell? ⟨go,x5.toNat * 5+4,none⟩=some (vr4):=(Deep.H_facts HH.out hp0.out hq0.out).1 4 _ rfl) | ((with_reducible refine gate_callee (f:=18) rfl ?_);refine goesL_ (some 48) rfl rfl Try.func18 (by kernel_rfl) rfl #[vr4,.int .i64 (wrap64 (t1.1+1))] rfl (by (try simp only[List.map_toArray,List.map_cons,List.map_nil]);first | done | rfl | (simp only[List.length_drop,List.length_take];rfl)) ?_;(with_reducible refine(Xh.calls k1 (fun k_=>some k_=(vr4:Value).ownBlock) vr4 ((rd_T175 x0 x5).f3.f1) (wrap64 (t1.1+1)) t2.1 t2.2 w0 _ HB.out (Kd.R_tight rfl HL4.out) At2.out).mono ?_);rintro e wz5 ⟨rfl,hy0,hb,hkp⟩;refine⟨_,rfl,?_⟩;have n0_:=aM (Kd.H_kept HH.out hkp (fun k_ _ hn_ e_=>hn_ (HL4.out.1 k_ e_.symm)));have n2_:=aM (Kept.then_ (S:=(fun k_=>P0_ k_)) HK.out hkp (fun k_ e_ => .inl (hok.out k_ (HL4.out.1 k_ e_.symm)).1));replace HL2:=aM (Deep.R_other HL2.out rfl HL4.out (by decide) hkp);replace HL4:=aM (Kd.R_reok rfl hy0 (fun k_ e_=>HL4.out.1 k_ e_));clear HH HB HK hkp hy0;have HH:=n0_;have HB:=Aside0.mk hb;have HK:=n2_;clear n0_ n2_ hb))
     go_roundg k1
     case measure=>have:=HK1.out;omega
     case rel=>exact⟨(x0.set (x5:Int).toNat (⟨x1,wrap64 (x1+1),t1.2,⟨t1.1,t2.2⟩⟩:S175)),t2.1,(wrap64 (x5+1)),(by first | rfl | (simp;done) | (simp[*];done)),(by first | rfl | (simp;done) | (simp[*];done)),H',⟨by have:=HK1.out;omega⟩,⟨Kd.H_back HH.out (k175_mkM _ _ _ (⟨x1,wrap64 (x1+1),t1.2,⟨t1.1,t2.2⟩⟩:S175) HL2.out HL4.out) (fun _ hk_=>hk_)⟩,HK,HB⟩
    ·rw[if_neg c4] at H
     exact absurd H (by simp)
   ·rw[if_neg c3] at H
    have c3b0:decide (x5<(x0.length:Int))=false:=decide_eq_false c3
    clear c3
    simp only[Option.some.injEq,Prod.mk.injEq] at H
    obtain⟨rfl,rfl⟩:=H
    obtain⟨Ao,co,eo⟩:=Kd.S_slice HO.out
    subst eo
    go_wp2
    go_ret
    exact⟨by first | rfl | (simp[errW_none,errW_some]<;>rfl),HO.out,HB.out,HK.out⟩
def Xl.l0:Nat→List (S146)→Int→Int→Option (Int × (List (S146)))
 | 0,_,_,_=>none
 | k+1,x0,x1,x5=>if x5<(x0.length:Int) then (if 0≤x5 then ((XH.f k (rd_T146 x0 x5).f0 x1).bind fun t1=>((Xw.f k (rd_T146 x0 x5).f3 (wrap64 ((wrap64 (t1.1+1))+1))).bind fun t2=>((Xx.f k (rd_T146 x0 x5).f4 t2.1).bind fun t3=>(Xl.l0 k (x0.set (x5:Int).toNat (⟨t1.2,t1.1,(decide (Int.tmod (wrap64 (t1.1+1)) 3=0)),t2.2,t3.2⟩:S146)) t3.1 (wrap64 (x5+1)))))) else (none)) else (some (x1,x0))
def Xl.f (k:Nat) (l0:List (S146)) (a1:Int):Option (Int × (List (S146))):=Xl.l0 k l0 a1 0
theorem Xl.calls (k:Nat) (P0_:Nat→Prop) (u9000_:Value) (l0:List (S146)) (a1:Int) (r1:Int) (r2:List (S146)) (w0 w:World) (hB:Below w0.heap.size w0 w) (ho0:Kd.S k146 146 w w0.heap.size P0_ u9000_ l0) (h:Xl.f k l0 a1=some (r1,r2)) :
  Calls Try.prog 123 #[u9000_,.int .i64 a1] w fun e w'=>e = .returned (.int .i64 r1)∧Kd.S k146 146 w' w0.heap.size P0_ u9000_ r2∧Below w0.heap.size w0 w'∧Kept w w' (fun k_=>P0_ k_):=by
 have HO0:=Aside0.mk ho0
 have HK:=aM (Kept.refl w (fun k_=>P0_ k_))
 have HB:=Aside0.mk hB
 clear hB ho0
 have H':=aM (show Xl.l0 k l0 a1 0=some (r1,r2) from h)
 clear h
 go_enter Try.func123,Try.ntmps123
 go_wp2
 go_loopg [1,5] k (fun kq v1 v5 w'=>∃ (x0:List (S146)) (x1:Int) (x5:Int),v1 = .int .i64 x1∧v5 = .int .i64 x5∧Aside0 (Xl.l0 kq x0 x1 x5=some (r1,r2))∧Aside0 (kq≤k)∧Aside0 (Kd.S k146 146 w' w0.heap.size P0_ u9000_ x0)∧Aside0 (Kept w w' (fun k_=>P0_ k_))∧Aside0 (Below w0.heap.size w0 w'))
 case atStart=>exact⟨l0,a1,0,(by first | rfl | (simp;done) | (simp[*];done)),(by first | rfl | (simp;done) | (simp[*];done)),H',⟨Nat.le_refl _⟩,HO0,HK,HB⟩
 case round =>
  clear H'
  try clear p2
  obtain⟨x0,x1,x5,rfl,rfl,HA,HK1,HO,HK,HB⟩:=hrel
  cases gk with
  | zero=>exact absurd HA.out (by simp[Xl.l0])
  | succ k1 =>
   have H:=HA.out
   clear HA
   simp only[Xl.l0] at H
   by_cases c3:x5<(x0.length:Int)
   ·rw[if_pos c3] at H
    have hq0:=Aside0.mk c3
    have c3b0:decide (x5<(x0.length:Int))=true:=decide_eq_true c3
    by_cases c4:0≤x5
    ·rw[if_pos c4] at H
     have hp0:=Aside0.mk c4
     have c4b0:decide (0≤x5)=true:=decide_eq_true c4
     obtain⟨t1,At1,H⟩:=Option.bind_eq_some_iff.mp H
     replace At1:=Aside0.mk At1
     obtain⟨t2,At2,H⟩:=Option.bind_eq_some_iff.mp H
     replace At2:=Aside0.mk At2
     obtain⟨t3,At3,H⟩:=Option.bind_eq_some_iff.mp H
     replace At3:=Aside0.mk At3
     have H':=Aside0.mk H
     clear H
     obtain⟨go,co,eo,gb,gl,cl,HG⟩:=Kd.S_form HO.out (by omega)
     subst eo
     have GB:=Aside0.mk gb
     clear gb gl HG
     have HM:=aM (show P0_ go from ((Kd.S_R HO.out).1 _ rfl))
     obtain⟨oki,ce,hcl,hM,hcc,hfr,hoki,hH⟩:=Kd.S_elem HO.out z146 x5 c4 c3
     obtain⟨vr0,vr3,vr4,rfl,hL0,hL3,hL4⟩:=k146_openM hM
     have hok:=Aside0.mk hoki
     have HH:=Aside0.mk hH
     have HL0:=aM (show Kd.R k56 56 wr w0.heap.size oki vr0 (rd_T146 x0 x5).f0 from hL0)
     have HL3:=aM (show Kd.R k187 187 wr w0.heap.size oki vr3 (rd_T146 x0 x5).f3 from hL3)
     have HL4:=aM (show Kd.R k189 189 wr w0.heap.size oki vr4 (rd_T146 x0 x5).f4 from hL4)
     have hx0:wr.cell? ⟨go,x5.toNat * 5,none⟩=some (vr0):=(Deep.H_facts HH.out hp0.out hq0.out).1 0 _ rfl
     clear hcl hM hcc hfr hoki hH hL0 hL3 hL4
     clear HO
     replace c3:=eq_true c3
     replace c4:=eq_true c4
     go_wp2_with (first | ((with_reducible refine gate_callee (f:=149) rfl ?_);refine goesL_ (some 18) rfl rfl Try.func149 (by kernel_rfl) rfl #[vr0,.int .i64 x1] rfl (by (try simp only[List.map_toArray,List.map_cons,List.map_nil]);first | done | rfl | (simp only[List.length_drop,List.length_take];rfl)) ?_;(with_reducible refine(XH.calls k1 (fun k_=>some k_=(vr0:Value).ownBlock) vr0 ((rd_T146 x0 x5).f0) x1 t1.1 t1.2 w0 _ HB.out (Kd.R_tight rfl HL0.out) At1.out).mono ?_);rintro e wz1 ⟨rfl,hy0,hb,hkp⟩;refine⟨_,rfl,?_⟩;have n0_:=aM (Kd.H_kept HH.out hkp (fun k_ _ hn_ e_=>hn_ (HL0.out.1 k_ e_.symm)));have n2_:=aM (Kept.then_ (S:=(fun k_=>P0_ k_)) HK.out hkp (fun k_ e_ => .inl (hok.out k_ (HL0.out.1 k_ e_.symm)).1));replace HL3:=aM (Deep.R_other HL3.out rfl HL0.out (by decide) hkp);replace HL4:=aM (Deep.R_other HL4.out rfl HL0.out (by decide) hkp);replace HL0:=aM (Kd.R_reok rfl hy0 (fun k_ e_=>HL0.out.1 k_ e_));clear HH HB HK hkp hy0;have HH:=n0_;have HB:=Aside0.mk hb;have HK:=n2_;clear n0_ n2_ hb;have hx1:wz1.cell? ⟨go,x5.toNat * 5+1,none⟩=some (.int .i64 (rd_T146 x0 x5).f1):=(Deep.H_facts HH.out hp0.out hq0.out).1 1 _ rfl;have hz1:wz1.frozen? ⟨go,x5.toNat * 5+1,none⟩=false:=(Deep.H_facts HH.out hp0.out hq0.out).2 1) | ((with_reducible refine gate_store (t:=3) (p:=23) rfl ?_);refine store_event (t:=3) (p:=23) (v:=?vo_wz2) (w1:=(wz1.setCell ⟨go,x5.toNat * 5+1,none⟩ (.int .i64 t1.1))) ?hg ?ho ?hn ?hr ?_;(case ho=>rfl);(case hg=>rfl);(case hn=>rfl);(case hr=>first | (go_simp;done) | (go_simp;rfl));intro wz2 hw;have hp_:=Deep.H_put HH.out hp0.out hq0.out 1 (.int .i64 t1.1) (by decide) rfl;have hg:wz1.grownBy wz2 (some go):=(by rw[hw];exact hp_.2);have n0_:=aM (show Kd.H k146 146 wz2 w0.heap.size P0_ (.slice (some ⟨go,0,none⟩) x0.length co) x0 x5 oki [vr0,.int .i64 t1.1,.bool (rd_T146 x0 x5).f2,vr3,vr4] from by rw[hw];exact hp_.1);have n1_:=aM (show Below w0.heap.size w0 wz2 from by rw[hw];exact below_set HB.out GB.out);have n2_:=aM (Kept.of_grown (S:=(fun k_=>P0_ k_)) hg HK.out (fun k_ e_ => .inl ((Option.some.inj e_) ▸ HM.out)));replace HL0:=aM (Kd.R_grown HL0.out hg (fun k_ hk_ e_=>(hok.out k_ hk_).2 (Option.some.inj e_)));replace HL3:=aM (Kd.R_grown HL3.out hg (fun k_ hk_ e_=>(hok.out k_ hk_).2 (Option.some.inj e_)));replace HL4:=aM (Kd.R_grown HL4.out hg (fun k_ hk_ e_=>(hok.out k_ hk_).2 (Option.some.inj e_)));clear HH HB HK hp_ hg hw;have HH:=n0_;have HB:=n1_;have HK:=n2_;clear n0_ n1_ n2_;have hx2:wz2.cell? ⟨go,x5.toNat * 5+2,none⟩=some (.bool (rd_T146 x0 x5).f2):=(Deep.H_facts HH.out hp0.out hq0.out).1 2 _ rfl;have hz2:wz2.frozen? ⟨go,x5.toNat * 5+2,none⟩=false:=(Deep.H_facts HH.out hp0.out hq0.out).2 2) | ((with_reducible refine gate_store (t:=4) (p:=32) rfl ?_);refine store_event (t:=4) (p:=32) (v:=?vo_wz3) (w1:=(wz2.setCell ⟨go,x5.toNat * 5+2,none⟩ (.bool (decide (Int.tmod (wrap64 (t1.1+1)) 3=0))))) ?hg ?ho ?hn ?hr ?_;(case ho=>rfl);(case hg=>rfl);(case hn=>rfl);(case hr=>first | (go_simp;done) | (go_simp;rfl));intro wz3 hw;have hp_:=Deep.H_put HH.out hp0.out hq0.out 2 (.bool (decide (Int.tmod (wrap64 (t1.1+1)) 3=0))) (by decide) rfl;have hg:wz2.grownBy wz3 (some go):=(by rw[hw];exact hp_.2);have n0_:=aM (show Kd.H k146 146 wz3 w0.heap.size P0_ (.slice (some ⟨go,0,none⟩) x0.length co) x0 x5 oki [vr0,.int .i64 t1.1,.bool (decide (Int.tmod (wrap64 (t1.1+1)) 3=0)),vr3,vr4] from by rw[hw];exact hp_.1);have n1_:=aM (show Below w0.heap.size w0 wz3 from by rw[hw];exact below_set HB.out GB.out);have n2_:=aM (Kept.of_grown (S:=(fun k_=>P0_ k_)) hg HK.out (fun k_ e_ => .inl ((Option.some.inj e_) ▸ HM.out)));replace HL0:=aM (Kd.R_grown HL0.out hg (fun k_ hk_ e_=>(hok.out k_ hk_).2 (Option.some.inj e_)));replace HL3:=aM (Kd.R_grown HL3.out hg (fun k_ hk_ e_=>(hok.out k_ hk_).2 (Option.some.inj e_)));replace HL4:=aM (Kd.R_grown HL4.out hg (fun k_ hk_ e_=>(hok.out k_ hk_).2 (Option.some.inj e_)));clear HH HB HK hp_ hg hw;have HH:=n0_;have HB:=n1_;have HK:=n2_;clear n0_ n1_ n2_;have hx3:wz3.cell? ⟨go,x5.toNat * 5+3,none⟩=some (vr3):=(Deep.H_facts HH.out hp0.out hq0.out).1 3 _ rfl) | ((with_reducible refine gate_callee (f:=150) rfl ?_);refine goesL_ (some 41) rfl rfl Try.func150 (by kernel_rfl) rfl #[vr3,.int .i64 (wrap64 ((wrap64 (t1.1+1))+1))] rfl (by (try simp only[List.map_toArray,List.map_cons,List.map_nil]);first | done | rfl | (simp only[List.length_drop,List.length_take];rfl)) ?_;(with_reducible refine(Xw.calls k1 (fun k_=>some k_=(vr3:Value).ownBlock) vr3 ((rd_T146 x0 x5).f3) (wrap64 ((wrap64 (t1.1+1))+1)) t2.1 t2.2 w0 _ HB.out (Kd.R_tight rfl HL3.out) At2.out).mono ?_);rintro e wz4 ⟨rfl,hy0,hb,hkp⟩;refine⟨_,rfl,?_⟩;have n0_:=aM (Kd.H_kept HH.out hkp (fun k_ _ hn_ e_=>hn_ (HL3.out.1 k_ e_.symm)));have n2_:=aM (Kept.then_ (S:=(fun k_=>P0_ k_)) HK.out hkp (fun k_ e_ => .inl (hok.out k_ (HL3.out.1 k_ e_.symm)).1));replace HL0:=aM (Deep.R_other HL0.out rfl HL3.out (by decide) hkp);replace HL4:=aM (Deep.R_other HL4.out rfl HL3.out (by decide) hkp);replace HL3:=aM (Kd.R_reok rfl hy0 (fun k_ e_=>HL3.out.1 k_ e_));clear HH HB HK hkp hy0;have HH:=n0_;have HB:=Aside0.mk hb;have HK:=n2_;clear n0_ n2_ hb;have hx4:wz4.cell? ⟨go,x5.toNat * 5+4,none⟩=some (vr4):=(Deep.H_facts HH.out hp0.out hq0.out).1 4 _ rfl) | ((with_reducible refine gate_callee (f:=151) rfl ?_);refine goesL_ (some 48) rfl rfl Try.func151 (by kernel_rfl) rfl #[vr4,.int .i64 t2.1] rfl (by (try simp only[List.map_toArray,List.map_cons,List.map_nil]);first | done | rfl | (simp only[List.length_drop,List.length_take];rfl)) ?_;(with_reducible refine(Xx.calls k1 (fun k_=>some k_=(vr4:Value).ownBlock) vr4 ((rd_T146 x0 x5).f4) t2.1 t3.1 t3.2 w0 _ HB.out (Kd.R_tight rfl HL4.out) At3.out).mono ?_);rintro e wz5 ⟨rfl,hy0,hb,hkp⟩;refine⟨_,rfl,?_⟩;have n0_:=aM (Kd.H_kept HH.out hkp (fun k_ _ hn_ e_=>hn_ (HL4.out.1 k_ e_.symm)));have n2_:=aM (Kept.then_ (S:=(fun k_=>P0_ k_)) HK.out hkp (fun k_ e_ => .inl (hok.out k_ (HL4.out.1 k_ e_.symm)).1));replace HL0:=aM (Deep.R_other HL0.out rfl HL4.out (by decide) hkp);replace HL3:=aM (Deep.R_other HL3.out rfl HL4.out (by decide) hkp);replace HL4:=aM (Kd.R_reok rfl hy0 (fun k_ e_=>HL4.out.1 k_ e_));clear HH HB HK hkp hy0;have HH:=n0_;have HB:=Aside0.mk hb;have HK:=n2_;clear n0_ n2_ hb))
     go_roundg k1
     case measure=>have:=HK1.out;omega
     case rel=>exact⟨(x0.set (x5:Int).toNat (⟨t1.2,t1.1,(decide (Int.tmod (wrap64 (t1.1+1)) 3=0)),t2.2,t3.2⟩:S146)),t3.1,(wrap64 (x5+1)),(by first | rfl | (simp;done) | (simp[*];done)),(by first | rfl | (simp;done) | (simp[*];done)),H',⟨by have:=HK1.out;omega⟩,⟨Kd.H_back HH.out (k146_mkM _ _ _ (⟨t1.2,t1.1,(decide (Int.tmod (wrap64 (t1.1+1)) 3=0)),t2.2,t3.2⟩:S146) HL0.out HL3.out HL4.out) (fun _ hk_=>hk_)⟩,HK,HB⟩
    ·rw[if_neg c4] at H
     exact absurd H (by simp)
   ·rw[if_neg c3] at H
    have c3b0:decide (x5<(x0.length:Int))=false:=decide_eq_false c3
    clear c3
    simp only[Option.some.injEq,Prod.mk.injEq] at H
    obtain⟨rfl,rfl⟩:=H
    obtain⟨Ao,co,eo⟩:=Kd.S_slice HO.out
    subst eo
    go_wp2
    go_ret
    exact⟨by first | rfl | (simp[errW_none,errW_some]<;>rfl),HO.out,HB.out,HK.out⟩
end Go.Proofs.Yteamagejhbkhnaa.P
