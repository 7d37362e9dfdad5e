/- A part of the proof of the law FnExactMachineNew: texts of this seat, merged (words, printed functions of the program, plain lemmas). Conditions: none of its own. -/
import Derived.Test.YtmljebgideecjaaGreatP2kFnExactMachineNew10
import Derived.Test.YtmljebgideecjaaGreatP2kFnExactMachineNew11
import Derived.Test.YtmljebgideecjaaGreatP2kFnExactMachineNew12
import Derived.Test.YtmljebgideecjaaGreatP2kFnExactMachineNew13
set_option linter.unusedSimpArgs false
set_option linter.unusedVariables false
set_option maxHeartbeats 8000000
set_option maxRecDepth 100000
namespace Go.Proofs.YtmljebgideecjaaGreat.P2
open Go.Proofs.YtmljebgideecjaaGreatZ Go.RowKit Go.Proofs.YtmljebgideecjaaGreatW.PrintWords Go.Proofs.YtmljebgideecjaaGreatW.PrintLast Go.Proofs.YtmljebgideecjaaGreatW.PrintMore
attribute [local go_sem] max2_int min2_int max_two min_two max_three min_three max_four min_four   -- for this text's walks alone
def XM.l0:Nat→List (S97)→Int→Int→Option (Int × (List (S97)))
 | 0,_,_,_=>none
 | k+1,x0,x1,x5=>if x5<(x0.length:Int) then (if 0≤x5 then ((X8.f k (rd_T97 x0 x5).f0 x1).bind fun t1=>((X0.f k (rd_T97 x0 x5).f3 (wrap64 ((wrap64 (t1.1+1))+1))).bind fun t2=>((X1.f k (rd_T97 x0 x5).f4 t2.1).bind fun t3=>(XM.l0 k (x0.set (x5:Int).toNat (⟨t1.2,t1.1,(decide (Int.tmod (wrap64 (t1.1+1)) 3=0)),t2.2,t3.2⟩:S97)) t3.1 (wrap64 (x5+1)))))) else (none)) else (some (x1,x0))
def XM.f (k:Nat) (l0:List (S97)) (a1:Int):Option (Int × (List (S97))):=XM.l0 k l0 a1 0
theorem XM.calls (k:Nat) (P0_:Nat→Prop) (u9000_:Value) (l0:List (S97)) (a1:Int) (r1:Int) (r2:List (S97)) (w0 w:World) (hB:Below w0.heap.size w0 w) (ho0:Kd.S k97 97 w w0.heap.size P0_ u9000_ l0) (h:XM.f k l0 a1=some (r1,r2)) :
  Calls Tryz.prog 74 #[u9000_,.int .i64 a1] w fun e w'=>e = .returned (.int .i64 r1)∧Kd.S k97 97 w' w0.heap.size P0_ u9000_ r2∧Below w0.heap.size w0 w'∧Kept w w' (fun k_=>P0_ k_):=by
 have HO0:=Aside0.mk ho0
 have HK:=aM (Kept.refl w (fun k_=>P0_ k_))
 have HB:=Aside0.mk hB
 clear hB ho0
 have H':=aM (show XM.l0 k l0 a1 0=some (r1,r2) from h)
 clear h
 go_enter Tryz.func74,Tryz.ntmps74
 go_wp2
 go_loopg [1,5] k (fun kq v1 v5 w'=>∃ (x0:List (S97)) (x1:Int) (x5:Int),v1 = .int .i64 x1∧v5 = .int .i64 x5∧Aside0 (XM.l0 kq x0 x1 x5=some (r1,r2))∧Aside0 (kq≤k)∧Aside0 (Kd.S k97 97 w' w0.heap.size P0_ u9000_ x0)∧Aside0 (Kept w w' (fun k_=>P0_ k_))∧Aside0 (Below w0.heap.size w0 w'))
 case atStart=>exact⟨l0,a1,0,(by first | rfl | (simp;done) | (simp[*];done)),(by first | rfl | (simp;done) | (simp[*];done)),H',⟨Nat.le_refl _⟩,HO0,HK,HB⟩
 case round =>
  clear H'
  try clear p2
  obtain⟨x0,x1,x5,rfl,rfl,HA,HK1,HO,HK,HB⟩:=hrel
  cases gk with
  | zero=>exact absurd HA.out (by simp[XM.l0])
  | succ k1 =>
   have H:=HA.out
   clear HA
   simp only[XM.l0] at H
   by_cases c3:x5<(x0.length:Int)
   ·rw[if_pos c3] at H
    have hq0:=Aside0.mk c3
    have c3b0:decide (x5<(x0.length:Int))=true:=decide_eq_true c3
    by_cases c4:0≤x5
    ·rw[if_pos c4] at H
     have hp0:=Aside0.mk c4
     have c4b0:decide (0≤x5)=true:=decide_eq_true c4
     obtain⟨t1,At1,H⟩:=Option.bind_eq_some_iff.mp H
     replace At1:=Aside0.mk At1
     obtain⟨t2,At2,H⟩:=Option.bind_eq_some_iff.mp H
     replace At2:=Aside0.mk At2
     obtain⟨t3,At3,H⟩:=Option.bind_eq_some_iff.mp H
     replace At3:=Aside0.mk At3
     have H':=Aside0.mk H
     clear H
     obtain⟨go,co,eo,gb,gl,cl,HG⟩:=Kd.S_form HO.out (by omega)
     subst eo
     have GB:=Aside0.mk gb
     clear gb gl HG
     have HM:=aM (show P0_ go from ((Kd.S_R HO.out).1 _ rfl))
     obtain⟨oki,ce,hcl,hM,hcc,hfr,hoki,hH⟩:=Kd.S_elem HO.out z97 x5 c4 c3
     obtain⟨vr0,vr3,vr4,rfl,hL0,hL3,hL4⟩:=k97_openM hM
     have hok:=Aside0.mk hoki
     have HH:=Aside0.mk hH
     have HL0:=aM (show Kd.R k69 69 wr w0.heap.size oki vr0 (rd_T97 x0 x5).f0 from hL0)
     have HL3:=aM (show Kd.R k172 172 wr w0.heap.size oki vr3 (rd_T97 x0 x5).f3 from hL3)
     have HL4:=aM (show Kd.R k174 174 wr w0.heap.size oki vr4 (rd_T97 x0 x5).f4 from hL4)
     have hx0:wr.cell? ⟨go,x5.toNat * 5,none⟩=some (vr0):=(Deep.H_facts HH.out hp0.out hq0.out).1 0 _ rfl
     clear hcl hM hcc hfr hoki hH hL0 hL3 hL4
     clear HO
     replace c3:=eq_true c3
     replace c4:=eq_true c4
     go_wp2_with (first | ((with_reducible refine gate_callee (f:=72) rfl ?_);refine goesL_ (some 18) rfl rfl Tryz.func72 (by kernel_rfl) rfl #[vr0,.int .i64 x1] rfl (by (try simp only[List.map_toArray,List.map_cons,List.map_nil]);first | done | rfl | (simp only[List.length_drop,List.length_take];rfl)) ?_;(with_reducible refine(X8.calls k1 (fun k_=>some k_=(vr0:Value).ownBlock) vr0 ((rd_T97 x0 x5).f0) x1 t1.1 t1.2 w0 _ HB.out (Kd.R_tight rfl HL0.out) At1.out).mono ?_);rintro e wz1 ⟨rfl,hy0,hb,hkp⟩;refine⟨_,rfl,?_⟩;have n0_:=aM (Kd.H_kept HH.out hkp (fun k_ _ hn_ e_=>hn_ (HL0.out.1 k_ e_.symm)));have n2_:=aM (Kept.then_ (S:=(fun k_=>P0_ k_)) HK.out hkp (fun k_ e_ => .inl (hok.out k_ (HL0.out.1 k_ e_.symm)).1));replace HL3:=aM (Deep.R_other HL3.out rfl HL0.out (by decide) hkp);replace HL4:=aM (Deep.R_other HL4.out rfl HL0.out (by decide) hkp);replace HL0:=aM (Kd.R_reok rfl hy0 (fun k_ e_=>HL0.out.1 k_ e_));clear HH HB HK hkp hy0;have HH:=n0_;have HB:=Aside0.mk hb;have HK:=n2_;clear n0_ n2_ hb;have hx1:wz1.cell? ⟨go,x5.toNat * 5+1,none⟩=some (.int .i64 (rd_T97 x0 x5).f1):=(Deep.H_facts HH.out hp0.out hq0.out).1 1 _ rfl;have hz1:wz1.frozen? ⟨go,x5.toNat * 5+1,none⟩=false:=(Deep.H_facts HH.out hp0.out hq0.out).2 1) | ((with_reducible refine gate_store (t:=3) (p:=23) rfl ?_);refine store_event (t:=3) (p:=23) (v:=?vo_wz2) (w1:=(wz1.setCell ⟨go,x5.toNat * 5+1,none⟩ (.int .i64 t1.1))) ?hg ?ho ?hn ?hr ?_;(case ho=>rfl);(case hg=>rfl);(case hn=>rfl);(case hr=>first | (go_simp;done) | (go_simp;rfl));intro wz2 hw;have hp_:=Deep.H_put HH.out hp0.out hq0.out 1 (.int .i64 t1.1) (by decide) rfl;have hg:wz1.grownBy wz2 (some go):=(by rw[hw];exact hp_.2);have n0_:=aM (show Kd.H k97 97 wz2 w0.heap.size P0_ (.slice (some ⟨go,0,none⟩) x0.length co) x0 x5 oki [vr0,.int .i64 t1.1,.bool (rd_T97 x0 x5).f2,vr3,vr4] from by rw[hw];exact hp_.1);have n1_:=aM (show Below w0.heap.size w0 wz2 from by rw[hw];exact below_set HB.out GB.out);have n2_:=aM (Kept.of_grown (S:=(fun k_=>P0_ k_)) hg HK.out (fun k_ e_ => .inl ((Option.some.inj e_) ▸ HM.out)));replace HL0:=aM (Kd.R_grown HL0.out hg (fun k_ hk_ e_=>(hok.out k_ hk_).2 (Option.some.inj e_)));replace HL3:=aM (Kd.R_grown HL3.out hg (fun k_ hk_ e_=>(hok.out k_ hk_).2 (Option.some.inj e_)));replace HL4:=aM (Kd.R_grown HL4.out hg (fun k_ hk_ e_=>(hok.out k_ hk_).2 (Option.some.inj e_)));clear HH HB HK hp_ hg hw;have HH:=n0_;have HB:=n1_;have HK:=n2_;clear n0_ n1_ n2_;have hx2:wz2.cell? ⟨go,x5.toNat * 5+2,none⟩=some (.bool (rd_T97 x0 x5).f2):=(Deep.H_facts HH.out hp0.out hq0.out).1 2 _ rfl;have hz2:wz2.frozen? ⟨go,x5.toNat * 5+2,none⟩=false:=(Deep.H_facts HH.out hp0.out hq0.out).2 2) | ((with_reducible refine gate_store (t:=4) (p:=32) rfl ?_);refine store_event (t:=4) (p:=32) (v:=?vo_wz3) (w1:=(wz2.setCell ⟨go,x5.toNat * 5+2,none⟩ (.bool (decide (Int.tmod (wrap64 (t1.1+1)) 3=0))))) ?hg ?ho ?hn ?hr ?_;(case ho=>rfl);(case hg=>rfl);(case hn=>rfl);(case hr=>first | (go_simp;done) | (go_simp;rfl));intro wz3 hw;have hp_:=Deep.H_put HH.out hp0.out hq0.out 2 (.bool (decide (Int.tmod (wrap64 (t1.1+1)) 3=0))) (by decide) rfl;have hg:wz2.grownBy wz3 (some go):=(by rw[hw];exact hp_.2);have n0_:=aM (show Kd.H k97 97 wz3 w0.heap.size P0_ (.slice (some ⟨go,0,none⟩) x0.length co) x0 x5 oki [vr0,.int .i64 t1.1,.bool (decide (Int.tmod (wrap64 (t1.1+1)) 3=0)),vr3,vr4] from by rw[hw];exact hp_.1);have n1_:=aM (show Below w0.heap.size w0 wz3 from by rw[hw];exact below_set HB.out GB.out);have n2_:=aM (Kept.of_grown (S:=(fun k_=>P0_ k_)) hg HK.out (fun k_ e_ => .inl ((Option.some.inj e_) ▸ HM.out)));replace HL0:=aM (Kd.R_grown HL0.out hg (fun k_ hk_ e_=>(hok.out k_ hk_).2 (Option.some.inj e_)));replace HL3:=aM (Kd.R_grown HL3.out hg (fun k_ hk_ e_=>(hok.out k_ hk_).2 (Option.some.inj e_)));replace HL4:=aM (Kd.R_grown HL4.out hg (fun k_ hk_ e_=>(hok.out k_ hk_).2 (Option.some.inj e_)));clear HH HB HK hp_ hg hw;have HH:=n0_;have HB:=n1_;have HK:=n2_;clear n0_ n1_ n2_;have hx3:wz3.cell? ⟨go,x5.toNat * 5+3,none⟩=some (vr3):=(Deep.H_facts HH.out hp0.out hq0.out).1 3 _ rfl) | ((with_reducible refine gate_callee (f:=131) rfl ?_);refine goesL_ (some 41) rfl rfl Tryz.func131 (by kernel_rfl) rfl #[vr3,.int .i64 (wrap64 ((wrap64 (t1.1+1))+1))] rfl (by (try simp only[List.map_toArray,List.map_cons,List.map_nil]);first | done | rfl | (simp only[List.length_drop,List.length_take];rfl)) ?_;(with_reducible refine(X0.calls k1 (fun k_=>some k_=(vr3:Value).ownBlock) vr3 ((rd_T97 x0 x5).f3) (wrap64 ((wrap64 (t1.1+1))+1)) t2.1 t2.2 w0 _ HB.out (Kd.R_tight rfl HL3.out) At2.out).mono ?_);rintro e wz4 ⟨rfl,hy0,hb,hkp⟩;refine⟨_,rfl,?_⟩;have n0_:=aM (Kd.H_kept HH.out hkp (fun k_ _ hn_ e_=>hn_ (HL3.out.1 k_ e_.symm)));have n2_:=aM (Kept.then_ (S:=(fun k_=>P0_ k_)) HK.out hkp (fun k_ e_ => .inl (hok.out k_ (HL3.out.1 k_ e_.symm)).1));replace HL0:=aM (Deep.R_other HL0.out rfl HL3.out (by decide) hkp);replace HL4:=aM (Deep.R_other HL4.out rfl HL3.out (by decide) hkp);replace HL3:=aM (Kd.R_reok rfl hy0 (fun k_ e_=>HL3.out.1 k_ e_));clear HH HB HK hkp hy0;have HH:=n0_;have HB:=Aside0.mk hb;have HK:=n2_;clear n0_ n2_ hb;have hx4:wz4.cell? ⟨go,x5.toNat * 5+4,none⟩=some (vr4):=(Deep.H_facts HH.out hp0.out hq0.out).1 4 _ rfl) | ((with_reducible refine gate_callee (f:=132) rfl ?_);refine goesL_ (some 48) rfl rfl Tryz.func132 (by kernel_rfl) rfl #[vr4,.int .i64 t2.1] rfl (by (try simp only[List.map_toArray,List.map_cons,List.map_nil]);first | done | rfl | (simp only[List.length_drop,List.length_take];rfl)) ?_;(with_reducible refine(X1.calls k1 (fun k_=>some k_=(vr4:Value).ownBlock) vr4 ((rd_T97 x0 x5).f4) t2.1 t3.1 t3.2 w0 _ HB.out (Kd.R_tight rfl HL4.out) At3.out).mono ?_);rintro e wz5 ⟨rfl,hy0,hb,hkp⟩;refine⟨_,rfl,?_⟩;have n0_:=aM (Kd.H_kept HH.out hkp (fun k_ _ hn_ e_=>hn_ (HL4.out.1 k_ e_.symm)));have n2_:=aM (Kept.then_ (S:=(fun k_=>P0_ k_)) HK.out hkp (fun k_ e_ => .inl (hok.out k_ (HL4.out.1 k_ e_.symm)).1));replace HL0:=aM (Deep.R_other HL0.out rfl HL4.out (by decide) hkp);replace HL3:=aM (Deep.R_other HL3.out rfl HL4.out (by decide) hkp);replace HL4:=aM (Kd.R_reok rfl hy0 (fun k_ e_=>HL4.out.1 k_ e_));clear HH HB HK hkp hy0;have HH:=n0_;have HB:=Aside0.mk hb;have HK:=n2_;clear n0_ n2_ hb))
     go_roundg k1
     case measure=>have:=HK1.out;omega
     case rel=>exact⟨(x0.set (x5:Int).toNat (⟨t1.2,t1.1,(decide (Int.tmod (wrap64 (t1.1+1)) 3=0)),t2.2,t3.2⟩:S97)),t3.1,(wrap64 (x5+1)),(by first | rfl | (simp;done) | (simp[*];done)),(by first | rfl | (simp;done) | (simp[*];done)),H',⟨by have:=HK1.out;omega⟩,⟨Kd.H_back HH.out (k97_mkM _ _ _ (⟨t1.2,t1.1,(decide (Int.tmod (wrap64 (t1.1+1)) 3=0)),t2.2,t3.2⟩:S97) HL0.out HL3.out HL4.out) (fun _ hk_=>hk_)⟩,HK,HB⟩
    ·rw[if_neg c4] at H
     exact absurd H (by simp)
   ·rw[if_neg c3] at H
    have c3b0:decide (x5<(x0.length:Int))=false:=decide_eq_false c3
    clear c3
    simp only[Option.some.injEq,Prod.mk.injEq] at H
    obtain⟨rfl,rfl⟩:=H
    obtain⟨Ao,co,eo⟩:=Kd.S_slice HO.out
    subst eo
    go_wp2
    go_ret
    exact⟨by first | rfl | (simp[errW_none,errW_some]<;>rfl),HO.out,HB.out,HK.out⟩
def X4.l0:Nat→List (S73)→Int→Int→Option (Int × (List (S73)))
 | 0,_,_,_=>none
 | k+1,x0,x1,x5=>if x5<(x0.length:Int) then (if 0≤x5 then ((Xy.f k (rd_T73 x0 x5).f5.f1 (wrap64 ((wrap64 ((wrap64 ((wrap64 ((wrap64 ((wrap64 ((wrap64 ((wrap64 (x1+1))+1))+1))+1))+1))+1))+1))+1))).bind fun t1=>(X4.l0 k (x0.set (x5:Int).toNat (⟨x1,⟨wrap64 (x1+1),wrap64 ((wrap64 (x1+1))+1),wrap64 ((wrap64 ((wrap64 (x1+1))+1))+1)⟩,wrap64 ((wrap64 ((wrap64 ((wrap64 (x1+1))+1))+1))+1),wrap64 ((wrap64 ((wrap64 ((wrap64 ((wrap64 (x1+1))+1))+1))+1))+1),wrap64 ((wrap64 ((wrap64 ((wrap64 ((wrap64 ((wrap64 (x1+1))+1))+1))+1))+1))+1),⟨wrap64 ((wrap64 ((wrap64 ((wrap64 ((wrap64 ((wrap64 ((wrap64 (x1+1))+1))+1))+1))+1))+1))+1),t1.2⟩⟩:S73)) t1.1 (wrap64 (x5+1)))) else (none)) else (some (x1,x0))
def X4.f (k:Nat) (l0:List (S73)) (a1:Int):Option (Int × (List (S73))):=X4.l0 k l0 a1 0
theorem X4.calls (k:Nat) (P0_:Nat→Prop) (u9000_:Value) (l0:List (S73)) (a1:Int) (r1:Int) (r2:List (S73)) (w0 w:World) (hB:Below w0.heap.size w0 w) (ho0:Kd.S k73 73 w w0.heap.size P0_ u9000_ l0) (h:X4.f k l0 a1=some (r1,r2)) :
  Calls Tryz.prog 75 #[u9000_,.int .i64 a1] w fun e w'=>e = .returned (.int .i64 r1)∧Kd.S k73 73 w' w0.heap.size P0_ u9000_ r2∧Below w0.heap.size w0 w'∧Kept w w' (fun k_=>P0_ k_):=by
 have HO0:=Aside0.mk ho0
 have HK:=aM (Kept.refl w (fun k_=>P0_ k_))
 have HB:=Aside0.mk hB
 clear hB ho0
 have H':=aM (show X4.l0 k l0 a1 0=some (r1,r2) from h)
 clear h
 go_enter Tryz.func75,Tryz.ntmps75
 go_wp2
 go_loopg [1,5] k (fun kq v1 v5 w'=>∃ (x0:List (S73)) (x1:Int) (x5:Int),v1 = .int .i64 x1∧v5 = .int .i64 x5∧Aside0 (X4.l0 kq x0 x1 x5=some (r1,r2))∧Aside0 (kq≤k)∧Aside0 (Kd.S k73 73 w' w0.heap.size P0_ u9000_ x0)∧Aside0 (Kept w w' (fun k_=>P0_ k_))∧Aside0 (Below w0.heap.size w0 w'))
 case atStart=>exact⟨l0,a1,0,(by first | rfl | (simp;done) | (simp[*];done)),(by first | rfl | (simp;done) | (simp[*];done)),H',⟨Nat.le_refl _⟩,HO0,HK,HB⟩
 case round =>
  clear H'
  try clear p2
  obtain⟨x0,x1,x5,rfl,rfl,HA,HK1,HO,HK,HB⟩:=hrel
  cases gk with
  | zero=>exact absurd HA.out (by simp[X4.l0])
  | succ k1 =>
   have H:=HA.out
   clear HA
   simp only[X4.l0] at H
   by_cases c3:x5<(x0.length:Int)
   ·rw[if_pos c3] at H
    have hq0:=Aside0.mk c3
    have c3b0:decide (x5<(x0.length:Int))=true:=decide_eq_true c3
    by_cases c4:0≤x5
    ·rw[if_pos c4] at H
     have hp0:=Aside0.mk c4
     have c4b0:decide (0≤x5)=true:=decide_eq_true c4
     obtain⟨t1,At1,H⟩:=Option.bind_eq_some_iff.mp H
     replace At1:=Aside0.mk At1
     have H':=Aside0.mk H
     clear H
     obtain⟨go,co,eo,gb,gl,cl,HG⟩:=Kd.S_form HO.out (by omega)
     subst eo
     have GB:=Aside0.mk gb
     clear gb gl HG
     have HM:=aM (show P0_ go from ((Kd.S_R HO.out).1 _ rfl))
     obtain⟨oki,ce,hcl,hM,hcc,hfr,hoki,hH⟩:=Kd.S_elem HO.out z73 x5 c4 c3
     obtain⟨vr8,rfl,hL8⟩:=k73_openM hM
     have hok:=Aside0.mk hoki
     have HH:=Aside0.mk hH
     have HL8:=aM (show Kd.R (Kd.int .i64) 3 wr w0.heap.size oki vr8 (rd_T73 x0 x5).f5.f1 from hL8)
     have hx0:wr.cell? ⟨go,x5.toNat * 9,none⟩=some (.int .i64 (rd_T73 x0 x5).f0):=(Deep.H_facts HH.out hp0.out hq0.out).1 0 _ rfl
     have hz0:wr.frozen? ⟨go,x5.toNat * 9,none⟩=false:=(Deep.H_facts HH.out hp0.out hq0.out).2 0
     clear hcl hM hcc hfr hoki hH hL8
     clear HO
     replace c3:=eq_true c3
     replace c4:=eq_true c4
     go_wp2_with (first | ((with_reducible refine gate_store (t:=3) (p:=16) rfl ?_);refine store_event (t:=3) (p:=16) (v:=?vo_wz1) (w1:=(wr.setCell ⟨go,x5.toNat * 9,none⟩ (.int .i64 x1))) ?hg ?ho ?hn ?hr ?_;(case ho=>rfl);(case hg=>rfl);(case hn=>rfl);(case hr=>first | (go_simp;done) | (go_simp;rfl));intro wz1 hw;have hp_:=Deep.H_put HH.out hp0.out hq0.out 0 (.int .i64 x1) (by decide) rfl;have hg:wr.grownBy wz1 (some go):=(by rw[hw];exact hp_.2);have n0_:=aM (show Kd.H k73 73 wz1 w0.heap.size P0_ (.slice (some ⟨go,0,none⟩) x0.length co) x0 x5 oki [.int .i64 x1,.int .i64 (rd_T73 x0 x5).f1.f0,.int .i64 (rd_T73 x0 x5).f1.f1,.int .i64 (rd_T73 x0 x5).f1.f2,.int .i64 (rd_T73 x0 x5).f2,.int .i64 (rd_T73 x0 x5).f3,.int .i64 (rd_T73 x0 x5).f4,.int .i64 (rd_T73 x0 x5).f5.f0,vr8] from by rw[hw];exact hp_.1);have n1_:=aM (show Below w0.heap.size w0 wz1 from by rw[hw];exact below_set HB.out GB.out);have n2_:=aM (Kept.of_grown (S:=(fun k_=>P0_ k_)) hg HK.out (fun k_ e_ => .inl ((Option.some.inj e_) ▸ HM.out)));replace HL8:=aM (Kd.R_grown HL8.out hg (fun k_ hk_ e_=>(hok.out k_ hk_).2 (Option.some.inj e_)));clear HH HB HK hp_ hg hw;have HH:=n0_;have HB:=n1_;have HK:=n2_;clear n0_ n1_ n2_;have hx1:wz1.cell? ⟨go,x5.toNat * 9+1,none⟩=some (.int .i64 (rd_T73 x0 x5).f1.f0):=(Deep.H_facts HH.out hp0.out hq0.out).1 1 _ rfl;have hz1:wz1.frozen? ⟨go,x5.toNat * 9+1,none⟩=false:=(Deep.H_facts HH.out hp0.out hq0.out).2 1) | ((with_reducible refine gate_store (t:=3) (p:=24) rfl ?_);refine store_event (t:=3) (p:=24) (v:=?vo_wz2) (w1:=(wz1.setCell ⟨go,x5.toNat * 9+1,none⟩ (.int .i64 (wrap64 (x1+1))))) ?hg ?ho ?hn ?hr ?_;(case ho=>rfl);(case hg=>rfl);(case hn=>rfl);(case hr=>first | (go_simp;done) | (go_simp;rfl));intro wz2 hw;have hp_:=Deep.H_put HH.out hp0.out hq0.out 1 (.int .i64 (wrap64 (x1+1))) (by decide) rfl;have hg:wz1.grownBy wz2 (some go):=(by rw[hw];exact hp_.2);have n0_:=aM (show Kd.H k73 73 wz2 w0.heap.size P0_ (.slice (some ⟨go,0,none⟩) x0.length co) x0 x5 oki [.int .i64 x1,.int .i64 (wrap64 (x1+1)),.int .i64 (rd_T73 x0 x5).f1.f1,.int .i64 (rd_T73 x0 x5).f1.f2,.int .i64 (rd_T73 x0 x5).f2,.int .i64 (rd_T73 x0 x5).f3,.int .i64 (rd_T73 x0 x5).f4,.int .i64 (rd_T73 x0 x5).f5.f0,vr8] from by rw[hw];exact hp_.1);have n1_:=aM (show Below w0.heap.size w0 wz2 from by rw[hw];exact below_set HB.out GB.out);have n2_:=aM (Kept.of_grown (S:=(fun k_=>P0_ k_)) hg HK.out (fun k_ e_ => .inl ((Option.some.inj e_) ▸ HM.out)));replace HL8:=aM (Kd.R_grown HL8.out hg (fun k_ hk_ e_=>(hok.out k_ hk_).2 (Option.some.inj e_)));clear HH HB HK hp_ hg hw;have HH:=n0_;have HB:=n1_;have HK:=n2_;clear n0_ n1_ n2_;have hx2:wz2.cell? ⟨go,x5.toNat * 9+2,none⟩=some (.int .i64 (rd_T73 x0 x5).f1.f1):=(Deep.H_facts HH.out hp0.out hq0.out).1 2 _ rfl;have hz2:wz2.frozen? ⟨go,x5.toNat * 9+2,none⟩=false:=(Deep.H_facts HH.out hp0.out hq0.out).2 2) | ((with_reducible refine gate_store (t:=3) (p:=32) rfl ?_);refine store_event (t:=3) (p:=32) (v:=?vo_wz3) (w1:=(wz2.setCell ⟨go,x5.toNat * 9+2,none⟩ (.int .i64 (wrap64 ((wrap64 (x1+1))+1))))) ?hg ?ho ?hn ?hr ?_;(case ho=>rfl);(case hg=>rfl);(case hn=>rfl);(case hr=>first | (go_simp;done) | (go_simp;rfl));intro wz3 hw;have hp_:=Deep.H_put HH.out hp0.out hq0.out 2 (.int .i64 (wrap64 ((wrap64 (x1+1))+1))) (by decide) rfl;have hg:wz2.grownBy wz3 (some go):=(by rw[hw];exact hp_.2);have n0_:=aM (show Kd.H k73 73 wz3 w0.heap.size P0_ (.slice (some ⟨go,0,none⟩) x0.length co) x0 x5 oki [.int .i64 x1,.int .i64 (wrap64 (x1+1)),.int .i64 (wrap64 ((wrap64 (x1+1))+1)),.int .i64 (rd_T73 x0 x5).f1.f2,.int .i64 (rd_T73 x0 x5).f2,.int .i64 (rd_T73 x0 x5).f3,.int .i64 (rd_T73 x0 x5).f4,.int .i64 (rd_T73 x0 x5).f5.f0,vr8] from by rw[hw];exact hp_.1);have n1_:=aM (show Below w0.heap.size w0 wz3 from by rw[hw];exact below_set HB.out GB.out);have n2_:=aM (Kept.of_grown (S:=(fun k_=>P0_ k_)) hg HK.out (fun k_ e_ => .inl ((Option.some.inj e_) ▸ HM.out)));replace HL8:=aM (Kd.R_grown HL8.out hg (fun k_ hk_ e_=>(hok.out k_ hk_).2 (Option.some.inj e_)));clear HH HB HK hp_ hg hw;have HH:=n0_;have HB:=n1_;have HK:=n2_;clear n0_ n1_ n2_;have hx3:wz3.cell? ⟨go,x5.toNat * 9+3,none⟩=some (.int .i64 (rd_T73 x0 x5).f1.f2):=(Deep.H_facts HH.out hp0.out hq0.out).1 3 _ rfl;have hz3:wz3.frozen? ⟨go,x5.toNat * 9+3,none⟩=false:=(Deep.H_facts HH.out hp0.out hq0.out).2 3) | ((with_reducible refine gate_store (t:=3) (p:=40) rfl ?_);refine store_event (t:=3) (p:=40) (v:=?vo_wz4) (w1:=(wz3.setCell ⟨go,x5.toNat * 9+3,none⟩ (.int .i64 (wrap64 ((wrap64 ((wrap64 (x1+1))+1))+1))))) ?hg ?ho ?hn ?hr ?_;(case ho=>rfl);(case hg=>rfl);(case hn=>rfl);(case hr=>first | (go_simp;done) | (go_simp;rfl));intro wz4 hw;have hp_:=Deep.H_put HH.out hp0.out hq0.out 3 (.int .i64 (wrap64 ((wrap64 ((wrap64 (x1+1))+1))+1))) (by decide) rfl;have hg:wz3.grownBy wz4 (some go):=(by rw[hw];exact hp_.2);have n0_:=aM (show Kd.H k73 73 wz4 w0.heap.size P0_ (.slice (some ⟨go,0,none⟩) x0.length co) x0 x5 oki [.int .i64 x1,.int .i64 (wrap64 (x1+1)),.int .i64 (wrap64 ((wrap64 (x1+1))+1)),.int .i64 (wrap64 ((wrap64 ((wrap64 (x1+1))+1))+1)),.int .i64 (rd_T73 x0 x5).f2,.int .i64 (rd_T73 x0 x5).f3,.int .i64 (rd_T73 x0 x5).f4,.int .i64 (rd_T73 x0 x5).f5.f0,vr8] from by rw[hw];exact hp_.1);have n1_:=aM (show Below w0.heap.size w0 wz4 from by rw[hw];exact below_set HB.out GB.out);have n2_:=aM (Kept.of_grown (S:=(fun k_=>P0_ k_)) hg HK.out (fun k_ e_ => .inl ((Option.some.inj e_) ▸ HM.out)));replace HL8:=aM (Kd.R_grown HL8.out hg (fun k_ hk_ e_=>(hok.out k_ hk_).2 (Option.some.inj e_)));clear HH HB HK hp_ hg hw;have HH:=n0_;have HB:=n1_;have HK:=n2_;clear n0_ n1_ n2_;have hx4:wz4.cell? ⟨go,x5.toNat * 9+4,none⟩=some (.int .i64 (rd_T73 x0 x5).f2):=(Deep.H_facts HH.out hp0.out hq0.out).1 4 _ rfl;have hz4:wz4.frozen? ⟨go,x5.toNat * 9+4,none⟩=false:=(Deep.H_facts HH.out hp0.out hq0.out).2 4) | ((with_reducible refine gate_store (t:=3) (p:=47) rfl ?_);refine store_event (t:=3) (p:=47) (v:=?vo_wz5) (w1:=(wz4.setCell ⟨go,x5.toNat * 9+4,none⟩ (.int .i64 (wrap64 ((wrap64 ((wrap64 ((wrap64 (x1+1))+1))+1))+1))))) ?hg ?ho ?hn ?hr ?_;(case ho=>rfl);(case hg=>rfl);(case hn=>rfl);(case hr=>first | (go_simp;done) | (go_simp;rfl));intro wz5 hw;have hp_:=Deep.H_put HH.out hp0.out hq0.out 4 (.int .i64 (wrap64 ((wrap64 ((wrap64 ((wrap64 (x1+1))+1))+1))+1))) (by decide) rfl;have hg:wz4.grownBy wz5 (some go):=(by rw[hw];exact hp_.2);have n0_:=aM (show Kd.H k73 73 wz5 w0.heap.size P0_ (.slice (some ⟨go,0,none⟩) x0.length co) x0 x5 oki [.int .i64 x1,.int .i64 (wrap64 (x1+1)),.int .i64 (wrap64 ((wrap64 (x1+1))+1)),.int .i64 (wrap64 ((wrap64 ((wrap64 (x1+1))+1))+1)),.int .i64 (wrap64 ((wrap64 ((wrap64 ((wrap64 (x1+1))+1))+1))+1)),.int .i64 (rd_T73 x0 x5).f3,.int .i64 (rd_T73 x0 x5).f4,.int .i64 (rd_T73 x0 x5).f5.f0,vr8] from by rw[hw];exact hp_.1);have n1_:=aM (show Below w0.heap.size w0 wz5 from by rw[hw];exact below_set HB.out GB.out);have n2_:=aM (Kept.of_grown (S:=(fun k_=>P0_ k_)) hg HK.out (fun k_ e_ => .inl ((Option.some.inj e_) ▸ HM.out)));replace HL8:=aM (Kd.R_grown HL8.out hg (fun k_ hk_ e_=>(hok.out k_ hk_).2 (Option.some.inj e_)));clear HH HB HK hp_ hg hw;have HH:=n0_;have HB:=n1_;have HK:=n2_;clear n0_ n1_ n2_;have hx5:wz5.cell? ⟨go,x5.toNat * 9+5,none⟩=some (.int .i64 (rd_T73 x0 x5).f3):=(Deep.H_facts HH.out hp0.out hq0.out).1 5 _ rfl;have hz5:wz5.frozen? ⟨go,x5.toNat * 9+5,none⟩=false:=(Deep.H_facts HH.out hp0.out hq0.out).2 5) | ((with_reducible refine gate_store (t:=3) (p:=54) rfl ?_);refine store_event (t:=3) (p:=54) (v:=?vo_wz6) (w1:=(wz5.setCell ⟨go,x5.toNat * 9+5,none⟩ (.int .i64 (wrap64 ((wrap64 ((wrap64 ((wrap64 ((wrap64 (x1+1))+1))+1))+1))+1))))) ?hg ?ho ?hn ?hr ?_;(case ho=>rfl);(case hg=>rfl);(case hn=>rfl);(case hr=>first | (go_simp;done) | (go_simp;rfl));intro wz6 hw;have hp_:=Deep.H_put HH.out hp0.out hq0.out 5 (.int .i64 (wrap64 ((wrap64 ((wrap64 ((wrap64 ((wrap64 (x1+1))+1))+1))+1))+1))) (by decide) rfl;have hg:wz5.grownBy wz6 (some go):=(by rw[hw];exact hp_.2);have n0_:=aM (show Kd.H k73 73 wz6 w0.heap.size P0_ (.slice (some ⟨go,0,none⟩) x0.length co) x0 x5 oki [.int .i64 x1,.int .i64 (wrap64 (x1+1)),.int .i64 (wrap64 ((wrap64 (x1+1))+1)),.int .i64 (wrap64 ((wrap64 ((wrap64 (x1+1))+1))+1)),.int .i64 (wrap64 ((wrap64 ((wrap64 ((wrap64 (x1+1))+1))+1))+1)),.int .i64 (wrap64 ((wrap64 ((wrap64 ((wrap64 ((wrap64 (x1+1))+1))+1))+1))+1)),.int .i64 (rd_T73 x0 x5).f4,.int .i64 (rd_T73 x0 x5).f5.f0,vr8] from by rw[hw];exact hp_.1);have n1_:=aM (show Below w0.heap.size w0 wz6 from by rw[hw];exact below_set HB.out GB.out);have n2_:=aM (Kept.of_grown (S:=(fun k_=>P0_ k_)) hg HK.out (fun k_ e_ => .inl ((Option.some.inj e_) ▸ HM.out)));replace HL8:=aM (Kd.R_grown HL8.out hg (fun k_ hk_ e_=>(hok.out k_ hk_).2 (Option.some.inj e_)));clear HH HB HK hp_ hg hw;have HH:=n0_;have HB:=n1_;have HK:=n2_;clear n0_ n1_ n2_;have hx6:wz6.cell? ⟨go,x5.toNat * 9+6,none⟩=some (.int .i64 (rd_T73 x0 x5).f4):=(Deep.H_facts HH.out hp0.out hq0.out).1 6 _ rfl;have hz6:wz6.frozen? ⟨go,x5.toNat * 9+6,none⟩=false:=(Deep.H_facts HH.out hp0.out hq0.out).2 6) | ((with_reducible refine gate_store (t:=3) (p:=61) rfl ?_);refine store_event (t:=3) (p:=61) (v:=?vo_wz7) (w1:=(wz6.setCell ⟨go,x5.toNat * 9+6,none⟩ (.int .i64 (wrap64 ((wrap64 ((wrap64 ((wrap64 ((wrap64 ((wrap64 (x1+1))+1))+1))+1))+1))+1))))) ?hg ?ho ?hn ?hr ?_;(case ho=>rfl);(case hg=>rfl);(case hn=>rfl);(case hr=>first | (go_simp;done) | (go_simp;rfl));intro wz7 hw;have hp_:=Deep.H_put HH.out hp0.out hq0.out 6 (.int .i64 (wrap64 ((wrap64 ((wrap64 ((wrap64 ((wrap64 ((wrap64 (x1+1))+1))+1))+1))+1))+1))) (by decide) rfl;have hg:wz6.grownBy wz7 (some go):=(by rw[hw];exact hp_.2);have n0_:=aM (show Kd.H k73 73 wz7 w0.heap.size P0_ (.slice (some ⟨go,0,none⟩) x0.length co) x0 x5 oki [.int .i64 x1,.int .i64 (wrap64 (x1+1)),.int .i64 (wrap64 ((wrap64 (x1+1))+1)),.int .i64 (wrap64 ((wrap64 ((wrap64 (x1+1))+1))+1)),.int .i64 (wrap64 ((wrap64 ((wrap64 ((wrap64 (x1+1))+1))+1))+1)),.int .i64 (wrap64 ((wrap64 ((wrap64 ((wrap64 ((wrap64 (x1+1))+1))+1))+1))+1)),.int .i64 (wrap64 ((wrap64 ((wrap64 ((wrap64 ((wrap64 ((wrap64 (x1+1))+1))+1))+1))+1))+1)),.int .i64 (rd_T73 x0 x5).f5.f0,vr8] from by rw[hw];exact hp_.1);have n1_:=aM (show Below w0.heap.size w0 wz7 from by rw[hw];exact below_set HB.out GB.out);have n2_:=aM (Kept.of_grown (S:=(fun k_=>P0_ k_)) hg HK.out (fun k_ e_ => .inl ((Option.some.inj e_) ▸ HM.out)));replace HL8:=aM (Kd.R_grown HL8.out hg (fun k_ hk_ e_=>(hok.out k_ hk_).2 (Option.some.inj e_)));clear HH HB HK hp_ hg hw;have HH:=n0_;have HB:=n1_;have HK:=n2_;clear n0_ n1_ n2_;have hx7:wz7.cell? ⟨go,x5.toNat * 9+7,none⟩=some (.int .i64 (rd_T73 x0 x5).f5.f0):=(Deep.H_facts HH.out hp0.out hq0.out).1 7 _ rfl;have hz7:wz7.frozen? ⟨go,x5.toNat * 9+7,none⟩=false:=(Deep.H_facts HH.out hp0.out hq0.out).2 7) | ((with_reducible refine gate_store (t:=3) (p:=69) rfl ?_);refine store_event (t:=3) (p:=69) (v:=?vo_wz8) (w1:=(wz7.setCell ⟨go,x5.toNat * 9+7,none⟩ (.int .i64 (wrap64 ((wrap64 ((wrap64 ((wrap64 ((wrap64 ((wrap64 ((wrap64 (x1+1))+1))+1))+1))+1))+1))+1))))) ?hg ?ho ?hn ?hr ?_;(case ho=>rfl);(case hg=>rfl);(case hn=>rfl);(case hr=>first | (go_simp;done) | (go_simp;rfl));intro wz8 hw;have hp_:=Deep.H_put HH.out hp0.out hq0.out 7 (.int .i64 (wrap64 ((wrap64 ((wrap64 ((wrap64 ((wrap64 ((wrap64 ((wrap64 (x1+1))+1))+1))+1))+1))+1))+1))) (by decide) rfl;have hg:wz7.grownBy wz8 (some go):=(by rw[hw];exact hp_.2);have n0_:=aM (show Kd.H k73 73 wz8 w0.heap.size P0_ (.slice (some ⟨go,0,none⟩) x0.length co) x0 x5 oki [.int .i64 x1,.int .i64 (wrap64 (x1+1)),.int .i64 (wrap64 ((wrap64 (x1+1))+1)),.int .i64 (wrap64 ((wrap64 ((wrap64 (x1+1))+1))+1)),.int .i64 (wrap64 ((wrap64 ((wrap64 ((wrap64 (x1+1))+1))+1))+1)),.int .i64 (wrap64 ((wrap64 ((wrap64 ((wrap64 ((wrap64 (x1+1))+1))+1))+1))+1)),.int .i64 (wrap64 ((wrap64 ((wrap64 ((wrap64 ((wrap64 ((wrap64 (x1+1))+1))+1))+1))+1))+1)),.int .i64 (wrap64 ((wrap64 ((wrap64 ((wrap64 ((wrap64 ((wrap64 ((wrap64 (x1+1))+1))+1))+1))+1))+1))+1)),vr8] from by rw[hw];exact hp_.1);have n1_:=aM (show Below w0.heap.size w0 wz8 from by rw[hw];exact below_set HB.out GB.out);have n2_:=aM (Kept.of_grown (S:=(fun k_=>P0_ k_)) hg HK.out (fun k_ e_ => .inl ((Option.some.inj e_) ▸ HM.out)));replace HL8:=aM (Kd.R_grown HL8.out hg (fun k_ hk_ e_=>(hok.out k_ hk_).2 (Option.some.inj e_)));clear HH HB HK hp_ hg hw;have HH:=n0_;have HB:=n1_;have HK:=n2_;clear n0_ n1_ n2_;have hx8:wz8.cell? ⟨go,x5.toNat * 9+8,none⟩=some (vr8):=(Deep.H_facts HH.out hp0.out hq0.out).1 8 _ rfl) | ((with_reducible refine gate_callee (f:=71) rfl ?_);refine goesL_ (some 79) rfl rfl Tryz.func71 (by kernel_rfl) rfl #[vr8,.int .i64 (wrap64 ((wrap64 ((wrap64 ((wrap64 ((wrap64 ((wrap64 ((wrap64 ((wrap64 (x1+1))+1))+1))+1))+1))+1))+1))+1))] rfl (by (try simp only[List.map_toArray,List.map_cons,List.map_nil]);first | done | rfl | (simp only[List.length_drop,List.length_take];rfl)) ?_;(with_reducible refine(Xy.calls k1 (fun k_=>some k_=(vr8:Value).ownBlock) vr8 ((rd_T73 x0 x5).f5.f1) (wrap64 ((wrap64 ((wrap64 ((wrap64 ((wrap64 ((wrap64 ((wrap64 ((wrap64 (x1+1))+1))+1))+1))+1))+1))+1))+1)) t1.1 t1.2 w0 _ HB.out (Kd.R_tight rfl HL8.out) At1.out).mono ?_);rintro e wz9 ⟨rfl,hy0,hb,hkp⟩;refine⟨_,rfl,?_⟩;have n0_:=aM (Kd.H_kept HH.out hkp (fun k_ _ hn_ e_=>hn_ (HL8.out.1 k_ e_.symm)));have n2_:=aM (Kept.then_ (S:=(fun k_=>P0_ k_)) HK.out hkp (fun k_ e_ => .inl (hok.out k_ (HL8.out.1 k_ e_.symm)).1));replace HL8:=aM (Kd.R_reok rfl hy0 (fun k_ e_=>HL8.out.1 k_ e_));clear HH HB HK hkp hy0;have HH:=n0_;have HB:=Aside0.mk hb;have HK:=n2_;clear n0_ n2_ hb))
     go_roundg k1
     case measure=>have:=HK1.out;omega
     case rel=>exact⟨(x0.set (x5:Int).toNat (⟨x1,⟨wrap64 (x1+1),wrap64 ((wrap64 (x1+1))+1),wrap64 ((wrap64 ((wrap64 (x1+1))+1))+1)⟩,wrap64 ((wrap64 ((wrap64 ((wrap64 (x1+1))+1))+1))+1),wrap64 ((wrap64 ((wrap64 ((wrap64 ((wrap64 (x1+1))+1))+1))+1))+1),wrap64 ((wrap64 ((wrap64 ((wrap64 ((wrap64 ((wrap64 (x1+1))+1))+1))+1))+1))+1),⟨wrap64 ((wrap64 ((wrap64 ((wrap64 ((wrap64 ((wrap64 ((wrap64 (x1+1))+1))+1))+1))+1))+1))+1),t1.2⟩⟩:S73)),t1.1,(wrap64 (x5+1)),(by first | rfl | (simp;done) | (simp[*];done)),(by first | rfl | (simp;done) | (simp[*];done)),H',⟨by have:=HK1.out;omega⟩,⟨Kd.H_back HH.out (k73_mkM _ _ _ (⟨x1,⟨wrap64 (x1+1),wrap64 ((wrap64 (x1+1))+1),wrap64 ((wrap64 ((wrap64 (x1+1))+1))+1)⟩,wrap64 ((wrap64 ((wrap64 ((wrap64 (x1+1))+1))+1))+1),wrap64 ((wrap64 ((wrap64 ((wrap64 ((wrap64 (x1+1))+1))+1))+1))+1),wrap64 ((wrap64 ((wrap64 ((wrap64 ((wrap64 ((wrap64 (x1+1))+1))+1))+1))+1))+1),⟨wrap64 ((wrap64 ((wrap64 ((wrap64 ((wrap64 ((wrap64 ((wrap64 (x1+1))+1))+1))+1))+1))+1))+1),t1.2⟩⟩:S73) HL8.out) (fun _ hk_=>hk_)⟩,HK,HB⟩
    ·rw[if_neg c4] at H
     exact absurd H (by simp)
   ·rw[if_neg c3] at H
    have c3b0:decide (x5<(x0.length:Int))=false:=decide_eq_false c3
    clear c3
    simp only[Option.some.injEq,Prod.mk.injEq] at H
    obtain⟨rfl,rfl⟩:=H
    obtain⟨Ao,co,eo⟩:=Kd.S_slice HO.out
    subst eo
    go_wp2
    go_ret
    exact⟨by first | rfl | (simp[errW_none,errW_some]<;>rfl),HO.out,HB.out,HK.out⟩







end Go.Proofs.YtmljebgideecjaaGreat.P2
namespace Go.Proofs.YtmljebgideecjaaGreat.P2
open Go.RowKit Go.Proofs.YtmljebgideecjaaGreatW.PrintWords Go.Proofs.YtmljebgideecjaaGreatW.PrintLast Go.Proofs.YtmljebgideecjaaGreatZ
theorem toIntS_ev (l:List Int) (hl:l.length≤1048576):Ev (fun k=>Xac.f k l) l:=by
 have c1:(0:Int)≤(l.length:Int):=by omega
 have c2:l.length≤35184372088832:=by omega
 simp only[Xac.f,c1,c2,if_true,Int.toNat_natCast]
 have h:=fill_ev l id (0:Int) (g:=fun k s i=>Xac.l0 k l s i) ?_ ?_
 ·rw[List.map_id] at h
  exact h
 ·intro s hs
  refine Ev.shift ?_
  simp only[Xac.l0,Int.lt_irrefl,if_false]
  exact Ev.now _
 ·intro s i x r hx hs hi h
  refine Ev.shift ?_
  have d1:(i:Int)<(l.length:Int):=by omega
  have d2:(0:Int)≤(i:Int):=by omega
  have d3:(i:Int)<(s.length:Int):=by omega
  simp only[Xac.l0,d1,d2,d3,if_true,rd_get hx,Int.toNat_natCast,succ64 hi (by omega)]
  exact h
theorem eqIntS_ev (l:List Int) (hl:l.length≤9223372036854775807):Ev (fun k=>XN.f k l l) true:=by
 simp only[XN.f,if_true]
 refine look_ev l true (g:=fun k i=>XN.l0 k l l i) ?_ ?_
 ·refine Ev.shift ?_
  simp only[XN.l0,Int.lt_irrefl,if_false]
  exact Ev.now _
 ·intro i x hx hi h
  refine Ev.shift ?_
  have d1:(i:Int)<(l.length:Int):=by omega
  have d2:(0:Int)≤(i:Int):=by omega
  simp only[XN.l0,d1,d2,if_true,succ64 hi hl]
  exact h
theorem szIntS_eq (l:List Int) (t:Int) (h0:0≤t) (h1:t≤1048576) (hl:l.length≤9223372036854775807):Xa5.f l t=some (lf (l.length:Int) t):=by
 have e:wrap64 (t - (l.length:Int))=t - l.length:=w64 (by omega) (by omega)
 unfold Xa5.f lf
 rw[e]
 by_cases h:(l.length:Int)≤t
 ·rw[if_neg (by omega),if_pos h]
 ·rw[if_pos (by omega),if_neg h]
end Go.Proofs.YtmljebgideecjaaGreat.P2
namespace Go.Proofs.YtmljebgideecjaaGreat.P2
open Go.Proofs.YtmljebgideecjaaGreatZ Go.RowKit Go.Proofs.YtmljebgideecjaaGreatW.PrintWords Go.Proofs.YtmljebgideecjaaGreatW.PrintLast Go.Proofs.YtmljebgideecjaaGreatW.PrintMore
attribute [local go_sem] max2_int min2_int max_two min_two max_three min_three max_four min_four   -- for this text's walks alone


end Go.Proofs.YtmljebgideecjaaGreat.P2
