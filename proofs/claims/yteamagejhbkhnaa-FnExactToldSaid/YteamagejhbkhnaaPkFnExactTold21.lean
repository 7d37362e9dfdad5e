/- A part of the proof of the law FnExactTold: texts of this seat, merged (words, printed functions of the program, plain lemmas). Conditions: none of its own. -/
import Derived.Test.YteamagejhbkhnaaPkFnExactTold17
import Derived.Test.YteamagejhbkhnaaPkFnExactTold18
import Derived.Test.YteamagejhbkhnaaPkFnExactTold19
set_option linter.unusedSimpArgs false
set_option linter.unusedVariables false
set_option maxHeartbeats 8000000
set_option maxRecDepth 100000
namespace Go.Proofs.Yteamagejhbkhnaa.P
open Go.Proofs.YteamagejhbkhnaaZ Go.RowKit Go.Proofs.YteamagejhbkhnaaW.PrintWords Go.Proofs.YteamagejhbkhnaaW.PrintLast Go.Proofs.YteamagejhbkhnaaW.PrintMore
attribute [local go_sem] max2_int min2_int max_two min_two max_three min_three max_four min_four   -- for this text's walks alone
def Xw.l0:Nat→List (S187)→Int→Int→Option (Int × (List (S187)))
 | 0,_,_,_=>none
 | k+1,x0,x1,x5=>if x5<(x0.length:Int) then (if 0≤x5 then (Xw.l0 k (x0.set (x5:Int).toNat (⟨x1,wrap64 (x1+1)⟩:S187)) (wrap64 ((wrap64 (x1+1))+1)) (wrap64 (x5+1))) else (none)) else (some (x1,x0))
def Xw.f (k:Nat) (l0:List (S187)) (a1:Int):Option (Int × (List (S187))):=Xw.l0 k l0 a1 0
theorem Xw.calls (k:Nat) (P0_:Nat→Prop) (u9000_:Value) (l0:List (S187)) (a1:Int) (r1:Int) (r2:List (S187)) (w0 w:World) (hB:Below w0.heap.size w0 w) (ho0:Kd.R k187 187 w w0.heap.size P0_ u9000_ l0) (h:Xw.f k l0 a1=some (r1,r2)) :
  Calls Try.prog 150 #[u9000_,.int .i64 a1] w fun e w'=>e = .returned (.int .i64 r1)∧Kd.R k187 187 w' w0.heap.size P0_ u9000_ r2∧Below w0.heap.size w0 w'∧Kept w w' (fun k_=>P0_ k_):=by
 have HO0:=Aside0.mk (Deep.S_flat rfl ho0)
 have HK:=aM (Kept.refl w (fun k_=>P0_ k_))
 have HB:=Aside0.mk hB
 clear hB ho0
 have H':=aM (show Xw.l0 k l0 a1 0=some (r1,r2) from h)
 clear h
 go_enter Try.func150,Try.ntmps150
 go_wp2
 go_loopg [1,5] k (fun kq v1 v5 w'=>∃ (x0:List (S187)) (x1:Int) (x5:Int),v1 = .int .i64 x1∧v5 = .int .i64 x5∧Aside0 (Xw.l0 kq x0 x1 x5=some (r1,r2))∧Aside0 (kq≤k)∧Aside0 (Kd.S k187 187 w' w0.heap.size P0_ u9000_ x0)∧Aside0 (Kept w w' (fun k_=>P0_ k_))∧Aside0 (Below w0.heap.size w0 w'))
 case atStart=>exact⟨l0,a1,0,(by first | rfl | (simp;done) | (simp[*];done)),(by first | rfl | (simp;done) | (simp[*];done)),H',⟨Nat.le_refl _⟩,HO0,HK,HB⟩
 case round =>
  clear H'
  try clear p2
  obtain⟨x0,x1,x5,rfl,rfl,HA,HK1,HO,HK,HB⟩:=hrel
  cases gk with
  | zero=>exact absurd HA.out (by simp[Xw.l0])
  | succ k1 =>
   have H:=HA.out
   clear HA
   simp only[Xw.l0] at H
   by_cases c3:x5<(x0.length:Int)
   ·rw[if_pos c3] at H
    have hq0:=Aside0.mk c3
    have c3b0:decide (x5<(x0.length:Int))=true:=decide_eq_true c3
    by_cases c4:0≤x5
    ·rw[if_pos c4] at H
     have hp0:=Aside0.mk c4
     have c4b0:decide (0≤x5)=true:=decide_eq_true c4
     have H':=Aside0.mk H
     clear H
     obtain⟨go,co,eo,gb,gl,cl,HG⟩:=Kd.S_form HO.out (by omega)
     subst eo
     have GB:=Aside0.mk gb
     clear gb gl HG
     have HM:=aM (show P0_ go from ((Kd.S_R HO.out).1 _ rfl))
     obtain⟨oki,ce,hcl,hM,hcc,hfr,hoki,hH⟩:=Kd.S_elem HO.out z187 x5 c4 c3
     obtain rfl:=k187_openM hM
     have hok:=Aside0.mk hoki
     have HH:=Aside0.mk hH
     have hx0:wr.cell? ⟨go,x5.toNat * 2,none⟩=some (.int .i64 (rd_T187 x0 x5).f0):=(Deep.H_facts HH.out hp0.out hq0.out).1 0 _ rfl
     have hz0:wr.frozen? ⟨go,x5.toNat * 2,none⟩=false:=(Deep.H_facts HH.out hp0.out hq0.out).2 0
     clear hcl hM hcc hfr hoki hH 
     clear HO
     replace c3:=eq_true c3
     replace c4:=eq_true c4
     go_wp2_with (first | ((with_reducible refine gate_store (t:=3) (p:=16) rfl ?_);refine store_event (t:=3) (p:=16) (v:=?vo_wz1) (w1:=(wr.setCell ⟨go,x5.toNat * 2,none⟩ (.int .i64 x1))) ?hg ?ho ?hn ?hr ?_;(case ho=>rfl);(case hg=>rfl);(case hn=>rfl);(case hr=>first | (go_simp;done) | (go_simp;rfl));intro wz1 hw;have hp_:=Deep.H_put HH.out hp0.out hq0.out 0 (.int .i64 x1) (by decide) rfl;have hg:wr.grownBy wz1 (some go):=(by rw[hw];exact hp_.2);have n0_:=aM (show Kd.H k187 187 wz1 w0.heap.size P0_ (.slice (some ⟨go,0,none⟩) x0.length co) x0 x5 oki [.int .i64 x1,.int .i64 (rd_T187 x0 x5).f1] from by rw[hw];exact hp_.1);have n1_:=aM (show Below w0.heap.size w0 wz1 from by rw[hw];exact below_set HB.out GB.out);have n2_:=aM (Kept.of_grown (S:=(fun k_=>P0_ k_)) hg HK.out (fun k_ e_ => .inl ((Option.some.inj e_) ▸ HM.out)));clear HH HB HK hp_ hg hw;have HH:=n0_;have HB:=n1_;have HK:=n2_;clear n0_ n1_ n2_;have hx1:wz1.cell? ⟨go,x5.toNat * 2+1,none⟩=some (.int .i64 (rd_T187 x0 x5).f1):=(Deep.H_facts HH.out hp0.out hq0.out).1 1 _ rfl;have hz1:wz1.frozen? ⟨go,x5.toNat * 2+1,none⟩=false:=(Deep.H_facts HH.out hp0.out hq0.out).2 1) | ((with_reducible refine gate_store (t:=3) (p:=23) rfl ?_);refine store_event (t:=3) (p:=23) (v:=?vo_wz2) (w1:=(wz1.setCell ⟨go,x5.toNat * 2+1,none⟩ (.int .i64 (wrap64 (x1+1))))) ?hg ?ho ?hn ?hr ?_;(case ho=>rfl);(case hg=>rfl);(case hn=>rfl);(case hr=>first | (go_simp;done) | (go_simp;rfl));intro wz2 hw;have hp_:=Deep.H_put HH.out hp0.out hq0.out 1 (.int .i64 (wrap64 (x1+1))) (by decide) rfl;have hg:wz1.grownBy wz2 (some go):=(by rw[hw];exact hp_.2);have n0_:=aM (show Kd.H k187 187 wz2 w0.heap.size P0_ (.slice (some ⟨go,0,none⟩) x0.length co) x0 x5 oki [.int .i64 x1,.int .i64 (wrap64 (x1+1))] from by rw[hw];exact hp_.1);have n1_:=aM (show Below w0.heap.size w0 wz2 from by rw[hw];exact below_set HB.out GB.out);have n2_:=aM (Kept.of_grown (S:=(fun k_=>P0_ k_)) hg HK.out (fun k_ e_ => .inl ((Option.some.inj e_) ▸ HM.out)));clear HH HB HK hp_ hg hw;have HH:=n0_;have HB:=n1_;have HK:=n2_;clear n0_ n1_ n2_))
     go_roundg k1
     case measure=>have:=HK1.out;omega
     case rel=>exact⟨(x0.set (x5:Int).toNat (⟨x1,wrap64 (x1+1)⟩:S187)),(wrap64 ((wrap64 (x1+1))+1)),(wrap64 (x5+1)),(by first | rfl | (simp;done) | (simp[*];done)),(by first | rfl | (simp;done) | (simp[*];done)),H',⟨by have:=HK1.out;omega⟩,⟨Kd.H_back HH.out (k187_mkM _ _ _ (⟨x1,wrap64 (x1+1)⟩:S187) ) (fun _ hk_=>hk_)⟩,HK,HB⟩
    ·rw[if_neg c4] at H
     exact absurd H (by simp)
   ·rw[if_neg c3] at H
    have c3b0:decide (x5<(x0.length:Int))=false:=decide_eq_false c3
    clear c3
    simp only[Option.some.injEq,Prod.mk.injEq] at H
    obtain⟨rfl,rfl⟩:=H
    obtain⟨Ao,co,eo⟩:=Kd.S_slice HO.out
    subst eo
    go_wp2
    go_ret
    exact⟨by first | rfl | (simp[errW_none,errW_some]<;>rfl),Kd.S_R HO.out,HB.out,HK.out⟩
def Xx.l0:Nat→List (S189)→Int→Int→Option (Int × (List (S189)))
 | 0,_,_,_=>none
 | k+1,x0,x1,x5=>if x5<(x0.length:Int) then (if 0≤x5 then (Xx.l0 k (x0.set (x5:Int).toNat (⟨x1,wrap64 (x1+1),wrap64 ((wrap64 (x1+1))+1),wrap64 ((wrap64 ((wrap64 (x1+1))+1))+1)⟩:S189)) (wrap64 ((wrap64 ((wrap64 ((wrap64 (x1+1))+1))+1))+1)) (wrap64 (x5+1))) else (none)) else (some (x1,x0))
def Xx.f (k:Nat) (l0:List (S189)) (a1:Int):Option (Int × (List (S189))):=Xx.l0 k l0 a1 0
theorem Xx.calls (k:Nat) (P0_:Nat→Prop) (u9000_:Value) (l0:List (S189)) (a1:Int) (r1:Int) (r2:List (S189)) (w0 w:World) (hB:Below w0.heap.size w0 w) (ho0:Kd.R k189 189 w w0.heap.size P0_ u9000_ l0) (h:Xx.f k l0 a1=some (r1,r2)) :
  Calls Try.prog 151 #[u9000_,.int .i64 a1] w fun e w'=>e = .returned (.int .i64 r1)∧Kd.R k189 189 w' w0.heap.size P0_ u9000_ r2∧Below w0.heap.size w0 w'∧Kept w w' (fun k_=>P0_ k_):=by
 have HO0:=Aside0.mk (Deep.S_flat rfl ho0)
 have HK:=aM (Kept.refl w (fun k_=>P0_ k_))
 have HB:=Aside0.mk hB
 clear hB ho0
 have H':=aM (show Xx.l0 k l0 a1 0=some (r1,r2) from h)
 clear h
 go_enter Try.func151,Try.ntmps151
 go_wp2
 go_loopg [1,5] k (fun kq v1 v5 w'=>∃ (x0:List (S189)) (x1:Int) (x5:Int),v1 = .int .i64 x1∧v5 = .int .i64 x5∧Aside0 (Xx.l0 kq x0 x1 x5=some (r1,r2))∧Aside0 (kq≤k)∧Aside0 (Kd.S k189 189 w' w0.heap.size P0_ u9000_ x0)∧Aside0 (Kept w w' (fun k_=>P0_ k_))∧Aside0 (Below w0.heap.size w0 w'))
 case atStart=>exact⟨l0,a1,0,(by first | rfl | (simp;done) | (simp[*];done)),(by first | rfl | (simp;done) | (simp[*];done)),H',⟨Nat.le_refl _⟩,HO0,HK,HB⟩
 case round =>
  clear H'
  try clear p2
  obtain⟨x0,x1,x5,rfl,rfl,HA,HK1,HO,HK,HB⟩:=hrel
  cases gk with
  | zero=>exact absurd HA.out (by simp[Xx.l0])
  | succ k1 =>
   have H:=HA.out
   clear HA
   simp only[Xx.l0] at H
   by_cases c3:x5<(x0.length:Int)
   ·rw[if_pos c3] at H
    have hq0:=Aside0.mk c3
    have c3b0:decide (x5<(x0.length:Int))=true:=decide_eq_true c3
    by_cases c4:0≤x5
    ·rw[if_pos c4] at H
     have hp0:=Aside0.mk c4
     have c4b0:decide (0≤x5)=true:=decide_eq_true c4
     have H':=Aside0.mk H
     clear H
     obtain⟨go,co,eo,gb,gl,cl,HG⟩:=Kd.S_form HO.out (by omega)
     subst eo
     have GB:=Aside0.mk gb
     clear gb gl HG
     have HM:=aM (show P0_ go from ((Kd.S_R HO.out).1 _ rfl))
     obtain⟨oki,ce,hcl,hM,hcc,hfr,hoki,hH⟩:=Kd.S_elem HO.out z189 x5 c4 c3
     obtain rfl:=k189_openM hM
     have hok:=Aside0.mk hoki
     have HH:=Aside0.mk hH
     have hx0:wr.cell? ⟨go,x5.toNat * 4,none⟩=some (.int .i64 (rd_T189 x0 x5).f0):=(Deep.H_facts HH.out hp0.out hq0.out).1 0 _ rfl
     have hz0:wr.frozen? ⟨go,x5.toNat * 4,none⟩=false:=(Deep.H_facts HH.out hp0.out hq0.out).2 0
     clear hcl hM hcc hfr hoki hH 
     clear HO
     replace c3:=eq_true c3
     replace c4:=eq_true c4
     go_wp2_with (first | ((with_reducible refine gate_store (t:=3) (p:=16) rfl ?_);refine store_event (t:=3) (p:=16) (v:=?vo_wz1) (w1:=(wr.setCell ⟨go,x5.toNat * 4,none⟩ (.int .i64 x1))) ?hg ?ho ?hn ?hr ?_;(case ho=>rfl);(case hg=>rfl);(case hn=>rfl);(case hr=>first | (go_simp;done) | (go_simp;rfl));intro wz1 hw;have hp_:=Deep.H_put HH.out hp0.out hq0.out 0 (.int .i64 x1) (by decide) rfl;have hg:wr.grownBy wz1 (some go):=(by rw[hw];exact hp_.2);have n0_:=aM (show Kd.H k189 189 wz1 w0.heap.size P0_ (.slice (some ⟨go,0,none⟩) x0.length co) x0 x5 oki [.int .i64 x1,.int .i64 (rd_T189 x0 x5).f1,.int .i64 (rd_T189 x0 x5).f2,.int .i64 (rd_T189 x0 x5).f3] from by rw[hw];exact hp_.1);have n1_:=aM (show Below w0.heap.size w0 wz1 from by rw[hw];exact below_set HB.out GB.out);have n2_:=aM (Kept.of_grown (S:=(fun k_=>P0_ k_)) hg HK.out (fun k_ e_ => .inl ((Option.some.inj e_) ▸ HM.out)));clear HH HB HK hp_ hg hw;have HH:=n0_;have HB:=n1_;have HK:=n2_;clear n0_ n1_ n2_;have hx1:wz1.cell? ⟨go,x5.toNat * 4+1,none⟩=some (.int .i64 (rd_T189 x0 x5).f1):=(Deep.H_facts HH.out hp0.out hq0.out).1 1 _ rfl;have hz1:wz1.frozen? ⟨go,x5.toNat * 4+1,none⟩=false:=(Deep.H_facts HH.out hp0.out hq0.out).2 1) | ((with_reducible refine gate_store (t:=3) (p:=23) rfl ?_);refine store_event (t:=3) (p:=23) (v:=?vo_wz2) (w1:=(wz1.setCell ⟨go,x5.toNat * 4+1,none⟩ (.int .i64 (wrap64 (x1+1))))) ?hg ?ho ?hn ?hr ?_;(case ho=>rfl);(case hg=>rfl);(case hn=>rfl);(case hr=>first | (go_simp;done) | (go_simp;rfl));intro wz2 hw;have hp_:=Deep.H_put HH.out hp0.out hq0.out 1 (.int .i64 (wrap64 (x1+1))) (by decide) rfl;have hg:wz1.grownBy wz2 (some go):=(by rw[hw];exact hp_.2);have n0_:=aM (show Kd.H k189 189 wz2 w0.heap.size P0_ (.slice (some ⟨go,0,none⟩) x0.length co) x0 x5 oki [.int .i64 x1,.int .i64 (wrap64 (x1+1)),.int .i64 (rd_T189 x0 x5).f2,.int .i64 (rd_T189 x0 x5).f3] from by rw[hw];exact hp_.1);have n1_:=aM (show Below w0.heap.size w0 wz2 from by rw[hw];exact below_set HB.out GB.out);have n2_:=aM (Kept.of_grown (S:=(fun k_=>P0_ k_)) hg HK.out (fun k_ e_ => .inl ((Option.some.inj e_) ▸ HM.out)));clear HH HB HK hp_ hg hw;have HH:=n0_;have HB:=n1_;have HK:=n2_;clear n0_ n1_ n2_;have hx2:wz2.cell? ⟨go,x5.toNat * 4+2,none⟩=some (.int .i64 (rd_T189 x0 x5).f2):=(Deep.H_facts HH.out hp0.out hq0.out).1 2 _ rfl;have hz2:wz2.frozen? ⟨go,x5.toNat * 4+2,none⟩=false:=(Deep.H_facts HH.out hp0.out hq0.out).2 2) | ((with_reducible refine gate_store (t:=3) (p:=30) rfl ?_);refine store_event (t:=3) (p:=30) (v:=?vo_wz3) (w1:=(wz2.setCell ⟨go,x5.toNat * 4+2,none⟩ (.int .i64 (wrap64 ((wrap64 (x1+1))+1))))) ?hg ?ho ?hn ?hr ?_;(case ho=>rfl);(case hg=>rfl);(case hn=>rfl);(case hr=>first | (go_simp;done) | (go_simp;rfl));intro wz3 hw;have hp_:=Deep.H_put HH.out hp0.out hq0.out 2 (.int .i64 (wrap64 ((wrap64 (x1+1))+1))) (by decide) rfl;have hg:wz2.grownBy wz3 (some go):=(by rw[hw];exact hp_.2);have n0_:=aM (show Kd.H k189 189 wz3 w0.heap.size P0_ (.slice (some ⟨go,0,none⟩) x0.length co) x0 x5 oki [.int .i64 x1,.int .i64 (wrap64 (x1+1)),.int .i64 (wrap64 ((wrap64 (x1+1))+1)),.int .i64 (rd_T189 x0 x5).f3] from by rw[hw];exact hp_.1);have n1_:=aM (show Below w0.heap.size w0 wz3 from by rw[hw];exact below_set HB.out GB.out);have n2_:=aM (Kept.of_grown (S:=(fun k_=>P0_ k_)) hg HK.out (fun k_ e_ => .inl ((Option.some.inj e_) ▸ HM.out)));clear HH HB HK hp_ hg hw;have HH:=n0_;have HB:=n1_;have HK:=n2_;clear n0_ n1_ n2_;have hx3:wz3.cell? ⟨go,x5.toNat * 4+3,none⟩=some (.int .i64 (rd_T189 x0 x5).f3):=(Deep.H_facts HH.out hp0.out hq0.out).1 3 _ rfl;have hz3:wz3.frozen? ⟨go,x5.toNat * 4+3,none⟩=false:=(Deep.H_facts HH.out hp0.out hq0.out).2 3) | ((with_reducible refine gate_store (t:=3) (p:=37) rfl ?_);refine store_event (t:=3) (p:=37) (v:=?vo_wz4) (w1:=(wz3.setCell ⟨go,x5.toNat * 4+3,none⟩ (.int .i64 (wrap64 ((wrap64 ((wrap64 (x1+1))+1))+1))))) ?hg ?ho ?hn ?hr ?_;(case ho=>rfl);(case hg=>rfl);(case hn=>rfl);(case hr=>first | (go_simp;done) | (go_simp;rfl));intro wz4 hw;have hp_:=Deep.H_put HH.out hp0.out hq0.out 3 (.int .i64 (wrap64 ((wrap64 ((wrap64 (x1+1))+1))+1))) (by decide) rfl;have hg:wz3.grownBy wz4 (some go):=(by rw[hw];exact hp_.2);have n0_:=aM (show Kd.H k189 189 wz4 w0.heap.size P0_ (.slice (some ⟨go,0,none⟩) x0.length co) x0 x5 oki [.int .i64 x1,.int .i64 (wrap64 (x1+1)),.int .i64 (wrap64 ((wrap64 (x1+1))+1)),.int .i64 (wrap64 ((wrap64 ((wrap64 (x1+1))+1))+1))] from by rw[hw];exact hp_.1);have n1_:=aM (show Below w0.heap.size w0 wz4 from by rw[hw];exact below_set HB.out GB.out);have n2_:=aM (Kept.of_grown (S:=(fun k_=>P0_ k_)) hg HK.out (fun k_ e_ => .inl ((Option.some.inj e_) ▸ HM.out)));clear HH HB HK hp_ hg hw;have HH:=n0_;have HB:=n1_;have HK:=n2_;clear n0_ n1_ n2_))
     go_roundg k1
     case measure=>have:=HK1.out;omega
     case rel=>exact⟨(x0.set (x5:Int).toNat (⟨x1,wrap64 (x1+1),wrap64 ((wrap64 (x1+1))+1),wrap64 ((wrap64 ((wrap64 (x1+1))+1))+1)⟩:S189)),(wrap64 ((wrap64 ((wrap64 ((wrap64 (x1+1))+1))+1))+1)),(wrap64 (x5+1)),(by first | rfl | (simp;done) | (simp[*];done)),(by first | rfl | (simp;done) | (simp[*];done)),H',⟨by have:=HK1.out;omega⟩,⟨Kd.H_back HH.out (k189_mkM _ _ _ (⟨x1,wrap64 (x1+1),wrap64 ((wrap64 (x1+1))+1),wrap64 ((wrap64 ((wrap64 (x1+1))+1))+1)⟩:S189) ) (fun _ hk_=>hk_)⟩,HK,HB⟩
    ·rw[if_neg c4] at H
     exact absurd H (by simp)
   ·rw[if_neg c3] at H
    have c3b0:decide (x5<(x0.length:Int))=false:=decide_eq_false c3
    clear c3
    simp only[Option.some.injEq,Prod.mk.injEq] at H
    obtain⟨rfl,rfl⟩:=H
    obtain⟨Ao,co,eo⟩:=Kd.S_slice HO.out
    subst eo
    go_wp2
    go_ret
    exact⟨by first | rfl | (simp[errW_none,errW_some]<;>rfl),Kd.S_R HO.out,HB.out,HK.out⟩
def Xo.l0:Nat→List (S59)→Int→Int→Option (Int × (List (S59)))
 | 0,_,_,_=>none
 | k+1,x0,x1,x5=>if x5<(x0.length:Int) then (if 0≤x5 then ((Xh.f k (rd_T59 x0 x5).f5.f1 (wrap64 ((wrap64 ((wrap64 ((wrap64 ((wrap64 ((wrap64 ((wrap64 ((wrap64 (x1+1))+1))+1))+1))+1))+1))+1))+1))).bind fun t1=>(Xo.l0 k (x0.set (x5:Int).toNat (⟨x1,⟨wrap64 (x1+1),wrap64 ((wrap64 (x1+1))+1),wrap64 ((wrap64 ((wrap64 (x1+1))+1))+1)⟩,wrap64 ((wrap64 ((wrap64 ((wrap64 (x1+1))+1))+1))+1),wrap64 ((wrap64 ((wrap64 ((wrap64 ((wrap64 (x1+1))+1))+1))+1))+1),wrap64 ((wrap64 ((wrap64 ((wrap64 ((wrap64 ((wrap64 (x1+1))+1))+1))+1))+1))+1),⟨wrap64 ((wrap64 ((wrap64 ((wrap64 ((wrap64 ((wrap64 ((wrap64 (x1+1))+1))+1))+1))+1))+1))+1),t1.2⟩⟩:S59)) t1.1 (wrap64 (x5+1)))) else (none)) else (some (x1,x0))
def Xo.f (k:Nat) (l0:List (S59)) (a1:Int):Option (Int × (List (S59))):=Xo.l0 k l0 a1 0
theorem Xo.calls (k:Nat) (P0_:Nat→Prop) (u9000_:Value) (l0:List (S59)) (a1:Int) (r1:Int) (r2:List (S59)) (w0 w:World) (hB:Below w0.heap.size w0 w) (ho0:Kd.S k59 59 w w0.heap.size P0_ u9000_ l0) (h:Xo.f k l0 a1=some (r1,r2)) :
  Calls Try.prog 72 #[u9000_,.int .i64 a1] w fun e w'=>e = .returned (.int .i64 r1)∧Kd.S k59 59 w' w0.heap.size P0_ u9000_ r2∧Below w0.heap.size w0 w'∧Kept w w' (fun k_=>P0_ k_):=by
 have HO0:=Aside0.mk ho0
 have HK:=aM (Kept.refl w (fun k_=>P0_ k_))
 have HB:=Aside0.mk hB
 clear hB ho0
 have H':=aM (show Xo.l0 k l0 a1 0=some (r1,r2) from h)
 clear h
 go_enter Try.func72,Try.ntmps72
 go_wp2
 go_loopg [1,5] k (fun kq v1 v5 w'=>∃ (x0:List (S59)) (x1:Int) (x5:Int),v1 = .int .i64 x1∧v5 = .int .i64 x5∧Aside0 (Xo.l0 kq x0 x1 x5=some (r1,r2))∧Aside0 (kq≤k)∧Aside0 (Kd.S k59 59 w' w0.heap.size P0_ u9000_ x0)∧Aside0 (Kept w w' (fun k_=>P0_ k_))∧Aside0 (Below w0.heap.size w0 w'))
 case atStart=>exact⟨l0,a1,0,(by first | rfl | (simp;done) | (simp[*];done)),(by first | rfl | (simp;done) | (simp[*];done)),H',⟨Nat.le_refl _⟩,HO0,HK,HB⟩
 case round =>
  clear H'
  try clear p2
  obtain⟨x0,x1,x5,rfl,rfl,HA,HK1,HO,HK,HB⟩:=hrel
  cases gk with
  | zero=>exact absurd HA.out (by simp[Xo.l0])
  | succ k1 =>
   have H:=HA.out
   clear HA
   simp only[Xo.l0] at H
   by_cases c3:x5<(x0.length:Int)
   ·rw[if_pos c3] at H
    have hq0:=Aside0.mk c3
    have c3b0:decide (x5<(x0.length:Int))=true:=decide_eq_true c3
    by_cases c4:0≤x5
    ·rw[if_pos c4] at H
     have hp0:=Aside0.mk c4
     have c4b0:decide (0≤x5)=true:=decide_eq_true c4
     obtain⟨t1,At1,H⟩:=Option.bind_eq_some_iff.mp H
     replace At1:=Aside0.mk At1
     have H':=Aside0.mk H
     clear H
     obtain⟨go,co,eo,gb,gl,cl,HG⟩:=Kd.S_form HO.out (by omega)
     subst eo
     have GB:=Aside0.mk gb
     clear gb gl HG
     have HM:=aM (show P0_ go from ((Kd.S_R HO.out).1 _ rfl))
     obtain⟨oki,ce,hcl,hM,hcc,hfr,hoki,hH⟩:=Kd.S_elem HO.out z59 x5 c4 c3
     obtain⟨vr8,rfl,hL8⟩:=k59_openM hM
     have hok:=Aside0.mk hoki
     have HH:=Aside0.mk hH
     have HL8:=aM (show Kd.R (Kd.int .i64) 3 wr w0.heap.size oki vr8 (rd_T59 x0 x5).f5.f1 from hL8)
     have hx0:wr.cell? ⟨go,x5.toNat * 9,none⟩=some (.int .i64 (rd_T59 x0 x5).f0):=(Deep.H_facts HH.out hp0.out hq0.out).1 0 _ rfl
     have hz0:wr.frozen? ⟨go,x5.toNat * 9,none⟩=false:=(Deep.H_facts HH.out hp0.out hq0.out).2 0
     clear hcl hM hcc hfr hoki hH hL8
     clear HO
     replace c3:=eq_true c3
     replace c4:=eq_true c4
     go_wp2_with (first | ((with_reducible refine gate_store (t:=3) (p:=16) rfl ?_);refine store_event (t:=3) (p:=16) (v:=?vo_wz1) (w1:=(wr.setCell ⟨go,x5.toNat * 9,none⟩ (.int .i64 x1))) ?hg ?ho ?hn ?hr ?_;(case ho=>rfl);(case hg=>rfl);(case hn=>rfl);(case hr=>first | (go_simp;done) | (go_simp;rfl));intro wz1 hw;have hp_:=Deep.H_put HH.out hp0.out hq0.out 0 (.int .i64 x1) (by decide) rfl;have hg:wr.grownBy wz1 (some go):=(by rw[hw];exact hp_.2);have n0_:=aM (show Kd.H k59 59 wz1 w0.heap.size P0_ (.slice (some ⟨go,0,none⟩) x0.length co) x0 x5 oki [.int .i64 x1,.int .i64 (rd_T59 x0 x5).f1.f0,.int .i64 (rd_T59 x0 x5).f1.f1,.int .i64 (rd_T59 x0 x5).f1.f2,.int .i64 (rd_T59 x0 x5).f2,.int .i64 (rd_T59 x0 x5).f3,.int .i64 (rd_T59 x0 x5).f4,.int .i64 (rd_T59 x0 x5).f5.f0,vr8] from by rw[hw];exact hp_.1);have n1_:=aM (show Below w0.heap.size w0 wz1 from by rw[hw];exact below_set HB.out GB.out);have n2_:=aM (Kept.of_grown (S:=(fun k_=>P0_ k_)) hg HK.out (fun k_ e_ => .inl ((Option.some.inj e_) ▸ HM.out)));replace HL8:=aM (Kd.R_grown HL8.out hg (fun k_ hk_ e_=>(hok.out k_ hk_).2 (Option.some.inj e_)));clear HH HB HK hp_ hg hw;have HH:=n0_;have HB:=n1_;have HK:=n2_;clear n0_ n1_ n2_;have hx1:wz1.cell? ⟨go,x5.toNat * 9+1,none⟩=some (.int .i64 (rd_T59 x0 x5).f1.f0):=(Deep.H_facts HH.out hp0.out hq0.out).1 1 _ rfl;have hz1:wz1.frozen? ⟨go,x5.toNat * 9+1,none⟩=false:=(Deep.H_facts HH.out hp0.out hq0.out).2 1) | ((with_reducible refine gate_store (t:=3) (p:=24) rfl ?_);refine store_event (t:=3) (p:=24) (v:=?vo_wz2) (w1:=(wz1.setCell ⟨go,x5.toNat * 9+1,none⟩ (.int .i64 (wrap64 (x1+1))))) ?hg ?ho ?hn ?hr ?_;(case ho=>rfl);(case hg=>rfl);(case hn=>rfl);(case hr=>first | (go_simp;done) | (go_simp;rfl));intro wz2 hw;have hp_:=Deep.H_put HH.out hp0.out hq0.out 1 (.int .i64 (wrap64 (x1+1))) (by decide) rfl;have hg:wz1.grownBy wz2 (some go):=(by rw[hw];exact hp_.2);have n0_:=aM (show Kd.H k59 59 wz2 w0.heap.size P0_ (.slice (some ⟨go,0,none⟩) x0.length co) x0 x5 oki [.int .i64 x1,.int .i64 (wrap64 (x1+1)),.int .i64 (rd_T59 x0 x5).f1.f1,.int .i64 (rd_T59 x0 x5).f1.f2,.int .i64 (rd_T59 x0 x5).f2,.int .i64 (rd_T59 x0 x5).f3,.int .i64 (rd_T59 x0 x5).f4,.int .i64 (rd_T59 x0 x5).f5.f0,vr8] from by rw[hw];exact hp_.1);have n1_:=aM (show Below w0.heap.size w0 wz2 from by rw[hw];exact below_set HB.out GB.out);have n2_:=aM (Kept.of_grown (S:=(fun k_=>P0_ k_)) hg HK.out (fun k_ e_ => .inl ((Option.some.inj e_) ▸ HM.out)));replace HL8:=aM (Kd.R_grown HL8.out hg (fun k_ hk_ e_=>(hok.out k_ hk_).2 (Option.some.inj e_)));clear HH HB HK hp_ hg hw;have HH:=n0_;have HB:=n1_;have HK:=n2_;clear n0_ n1_ n2_;have hx2:wz2.cell? ⟨go,x5.toNat * 9+2,none⟩=some (.int .i64 (rd_T59 x0 x5).f1.f1):=(Deep.H_facts HH.out hp0.out hq0.out).1 2 _ rfl;have hz2:wz2.frozen? ⟨go,x5.toNat * 9+2,none⟩=false:=(Deep.H_facts HH.out hp0.out hq0.out).2 2) | ((with_reducible refine gate_store (t:=3) (p:=32) rfl ?_);refine store_event (t:=3) (p:=32) (v:=?vo_wz3) (w1:=(wz2.setCell ⟨go,x5.toNat * 9+2,none⟩ (.int .i64 (wrap64 ((wrap64 (x1+1))+1))))) ?hg ?ho ?hn ?hr ?_;(case ho=>rfl);(case hg=>rfl);(case hn=>rfl);(case hr=>first | (go_simp;done) | (go_simp;rfl));intro wz3 hw;have hp_:=Deep.H_put HH.out hp0.out hq0.out 2 (.int .i64 (wrap64 ((wrap64 (x1+1))+1))) (by decide) rfl;have hg:wz2.grownBy wz3 (some go):=(by rw[hw];exact hp_.2);have n0_:=aM (show Kd.H k59 59 wz3 w0.heap.size P0_ (.slice (some ⟨go,0,none⟩) x0.length co) x0 x5 oki [.int .i64 x1,.int .i64 (wrap64 (x1+1)),.int .i64 (wrap64 ((wrap64 (x1+1))+1)),.int .i64 (rd_T59 x0 x5).f1.f2,.int .i64 (rd_T59 x0 x5).f2,.int .i64 (rd_T59 x0 x5).f3,.int .i64 (rd_T59 x0 x5).f4,.int .i64 (rd_T59 x0 x5).f5.f0,vr8] from by rw[hw];exact hp_.1);have n1_:=aM (show Below w0.heap.size w0 wz3 from by rw[hw];exact below_set HB.out GB.out);have n2_:=aM (Kept.of_grown (S:=(fun k_=>P0_ k_)) hg HK.out (fun k_ e_ => .inl ((Option.some.inj e_) ▸ HM.out)));replace HL8:=aM (Kd.R_grown HL8.out hg (fun k_ hk_ e_=>(hok.out k_ hk_).2 (Option.some.inj e_)));clear HH HB HK hp_ hg hw;have HH:=n0_;have HB:=n1_;have HK:=n2_;clear n0_ n1_ n2_;have hx3:wz3.cell? ⟨go,x5.toNat * 9+3,none⟩=some (.int .i64 (rd_T59 x0 x5).f1.f2):=(Deep.H_facts HH.out hp0.out hq0.out).1 3 _ rfl;have hz3:wz3.frozen? ⟨go,x5.toNat * 9+3,none⟩=false:=(Deep.H_facts HH.out hp0.out hq0.out).2 3) | ((with_reducible refine gate_store (t:=3) (p:=40) rfl ?_);refine store_event (t:=3) (p:=40) (v:=?vo_wz4) (w1:=(wz3.setCell ⟨go,x5.toNat * 9+3,none⟩ (.int .i64 (wrap64 ((wrap64 ((wrap64 (x1+1))+1))+1))))) ?hg ?ho ?hn ?hr ?_;(case ho=>rfl);(case hg=>rfl);(case hn=>rfl);(case hr=>first | (go_simp;done) | (go_simp;rfl));intro wz4 hw;have hp_:=Deep.H_put HH.out hp0.out hq0.out 3 (.int .i64 (wrap64 ((wrap64 ((wrap64 (x1+1))+1))+1))) (by decide) rfl;have hg:wz3.grownBy wz4 (some go):=(by rw[hw];exact hp_.2);have n0_:=aM (show Kd.H k59 59 wz4 w0.heap.size P0_ (.slice (some ⟨go,0,none⟩) x0.length co) x0 x5 oki [.int .i64 x1,.int .i64 (wrap64 (x1+1)),.int .i64 (wrap64 ((wrap64 (x1+1))+1)),.int .i64 (wrap64 ((wrap64 ((wrap64 (x1+1))+1))+1)),.int .i64 (rd_T59 x0 x5).f2,.int .i64 (rd_T59 x0 x5).f3,.int .i64 (rd_T59 x0 x5).f4,.int .i64 (rd_T59 x0 x5).f5.f0,vr8] from by rw[hw];exact hp_.1);have n1_:=aM (show Below w0.heap.size w0 wz4 from by rw[hw];exact below_set HB.out GB.out);have n2_:=aM (Kept.of_grown (S:=(fun k_=>P0_ k_)) hg HK.out (fun k_ e_ => .inl ((Option.some.inj e_) ▸ HM.out)));replace HL8:=aM (Kd.R_grown HL8.out hg (fun k_ hk_ e_=>(hok.out k_ hk_).2 (Option.some.inj e_)));clear HH HB HK hp_ hg hw;have HH:=n0_;have HB:=n1_;have HK:=n2_;clear n0_ n1_ n2_;have hx4:wz4.cell? ⟨go,x5.toNat * 9+4,none⟩=some (.int .i64 (rd_T59 x0 x5).f2):=(Deep.H_facts HH.out hp0.out hq0.out).1 4 _ rfl;have hz4:wz4.frozen? ⟨go,x5.toNat * 9+4,none⟩=false:=(Deep.H_facts HH.out hp0.out hq0.out).2 4) | ((with_reducible refine gate_store (t:=3) (p:=47) rfl ?_);refine store_event (t:=3) (p:=47) (v:=?vo_wz5) (w1:=(wz4.setCell ⟨go,x5.toNat * 9+4,none⟩ (.int .i64 (wrap64 ((wrap64 ((wrap64 ((wrap64 (x1+1))+1))+1))+1))))) ?hg ?ho ?hn ?hr ?_;(case ho=>rfl);(case hg=>rfl);(case hn=>rfl);(case hr=>first | (go_simp;done) | (go_simp;rfl));intro wz5 hw;have hp_:=Deep.H_put HH.out hp0.out hq0.out 4 (.int .i64 (wrap64 ((wrap64 ((wrap64 ((wrap64 (x1+1))+1))+1))+1))) (by decide) rfl;have hg:wz4.grownBy wz5 (some go):=(by rw[hw];exact hp_.2);have n0_:=aM (show Kd.H k59 59 wz5 w0.heap.size P0_ (.slice (some ⟨go,0,none⟩) x0.length co) x0 x5 oki [.int .i64 x1,.int .i64 (wrap64 (x1+1)),.int .i64 (wrap64 ((wrap64 (x1+1))+1)),.int .i64 (wrap64 ((wrap64 ((wrap64 (x1+1))+1))+1)),.int .i64 (wrap64 ((wrap64 ((wrap64 ((wrap64 (x1+1))+1))+1))+1)),.int .i64 (rd_T59 x0 x5).f3,.int .i64 (rd_T59 x0 x5).f4,.int .i64 (rd_T59 x0 x5).f5.f0,vr8] from by rw[hw];exact hp_.1);have n1_:=aM (show Below w0.heap.size w0 wz5 from by rw[hw];exact below_set HB.out GB.out);have n2_:=aM (Kept.of_grown (S:=(fun k_=>P0_ k_)) hg HK.out (fun k_ e_ => .inl ((Option.some.inj e_) ▸ HM.out)));replace HL8:=aM (Kd.R_grown HL8.out hg (fun k_ hk_ e_=>(hok.out k_ hk_).2 (Option.some.inj e_)));clear HH HB HK hp_ hg hw;have HH:=n0_;have HB:=n1_;have HK:=n2_;clear n0_ n1_ n2_;have hx5:wz5.cell? ⟨go,x5.toNat * 9+5,none⟩=some (.int .i64 (rd_T59 x0 x5).f3):=(Deep.H_facts HH.out hp0.out hq0.out).1 5 _ rfl;have hz5:wz5.frozen? ⟨go,x5.toNat * 9+5,none⟩=false:=(Deep.H_facts HH.out hp0.out hq0.out).2 5) | ((with_reducible refine gate_store (t:=3) (p:=54) rfl ?_);refine store_event (t:=3) (p:=54) (v:=?vo_wz6) (w1:=(wz5.setCell ⟨go,x5.toNat * 9+5,none⟩ (.int .i64 (wrap64 ((wrap64 ((wrap64 ((wrap64 ((wrap64 (x1+1))+1))+1))+1))+1))))) ?hg ?ho ?hn ?hr ?_;(case ho=>rfl);(case hg=>rfl);(case hn=>rfl);(case hr=>first | (go_simp;done) | (go_simp;rfl));intro wz6 hw;have hp_:=Deep.H_put HH.out hp0.out hq0.out 5 (.int .i64 (wrap64 ((wrap64 ((wrap64 ((wrap64 ((wrap64 (x1+1))+1))+1))+1))+1))) (by decide) rfl;have hg:wz5.grownBy wz6 (some go):=(by rw[hw];exact hp_.2);have n0_:=aM (show Kd.H k59 59 wz6 w0.heap.size P0_ (.slice (some ⟨go,0,none⟩) x0.length co) x0 x5 oki [.int .i64 x1,.int .i64 (wrap64 (x1+1)),.int .i64 (wrap64 ((wrap64 (x1+1))+1)),.int .i64 (wrap64 ((wrap64 ((wrap64 (x1+1))+1))+1)),.int .i64 (wrap64 ((wrap64 ((wrap64 ((wrap64 (x1+1))+1))+1))+1)),.int .i64 (wrap64 ((wrap64 ((wrap64 ((wrap64 ((wrap64 (x1+1))+1))+1))+1))+1)),.int .i64 (rd_T59 x0 x5).f4,.int .i64 (rd_T59 x0 x5).f5.f0,vr8] from by rw[hw];exact hp_.1);have n1_:=aM (show Below w0.heap.size w0 wz6 from by rw[hw];exact below_set HB.out GB.out);have n2_:=aM (Kept.of_grown (S:=(fun k_=>P0_ k_)) hg HK.out (fun k_ e_ => .inl ((Option.some.inj e_) ▸ HM.out)));replace HL8:=aM (Kd.R_grown HL8.out hg (fun k_ hk_ e_=>(hok.out k_ hk_).2 (Option.some.inj e_)));clear HH HB HK hp_ hg hw;have HH:=n0_;have HB:=n1_;have HK:=n2_;clear n0_ n1_ n2_;have hx6:wz6.cell? ⟨go,x5.toNat * 9+6,none⟩=some (.int .i64 (rd_T59 x0 x5).f4):=(Deep.H_facts HH.out hp0.out hq0.out).1 6 _ rfl;have hz6:wz6.frozen? ⟨go,x5.toNat * 9+6,none⟩=false:=(Deep.H_facts HH.out hp0.out hq0.out).2 6) | ((with_reducible refine gate_store (t:=3) (p:=61) rfl ?_);refine store_event (t:=3) (p:=61) (v:=?vo_wz7) (w1:=(wz6.setCell ⟨go,x5.toNat * 9+6,none⟩ (.int .i64 (wrap64 ((wrap64 ((wrap64 ((wrap64 ((wrap64 ((wrap64 (x1+1))+1))+1))+1))+1))+1))))) ?hg ?ho ?hn ?hr ?_;(case ho=>rfl);(case hg=>rfl);(case hn=>rfl);(case hr=>first | (go_simp;done) | (go_simp;rfl));intro wz7 hw;have hp_:=Deep.H_put HH.out hp0.out hq0.out 6 (.int .i64 (wrap64 ((wrap64 ((wrap64 ((wrap64 ((wrap64 ((wrap64 (x1+1))+1))+1))+1))+1))+1))) (by decide) rfl;have hg:wz6.grownBy wz7 (some go):=(by rw[hw];exact hp_.2);have n0_:=aM (show Kd.H k59 59 wz7 w0.heap.size P0_ (.slice (some ⟨go,0,none⟩) x0.length co) x0 x5 oki [.int .i64 x1,.int .i64 (wrap64 (x1+1)),.int .i64 (wrap64 ((wrap64 (x1+1))+1)),.int .i64 (wrap64 ((wrap64 ((wrap64 (x1+1))+1))+1)),.int .i64 (wrap64 ((wrap64 ((wrap64 ((wrap64 (x1+1))+1))+1))+1)),.int .i64 (wrap64 ((wrap64 ((wrap64 ((wrap64 ((wrap64 (x1+1))+1))+1))+1))+1)),.int .i64 (wrap64 ((wrap64 ((wrap64 ((wrap64 ((wrap64 ((wrap64 (x1+1))+1))+1))+1))+1))+1)),.int .i64 (rd_T59 x0 x5).f5.f0,vr8] from by rw[hw];exact hp_.1);have n1_:=aM (show Below w0.heap.size w0 wz7 from by rw[hw];exact below_set HB.out GB.out);have n2_:=aM (Kept.of_grown (S:=(fun k_=>P0_ k_)) hg HK.out (fun k_ e_ => .inl ((Option.some.inj e_) ▸ HM.out)));replace HL8:=aM (Kd.R_grown HL8.out hg (fun k_ hk_ e_=>(hok.out k_ hk_).2 (Option.some.inj e_)));clear HH HB HK hp_ hg hw;have HH:=n0_;have HB:=n1_;have HK:=n2_;clear n0_ n1_ n2_;have hx7:wz7.cell? ⟨go,x5.toNat * 9+7,none⟩=some (.int .i64 (rd_T59 x0 x5).f5.f0):=(Deep.H_facts HH.out hp0.out hq0.out).1 7 _ rfl;have hz7:wz7.frozen? ⟨go,x5.toNat * 9+7,none⟩=false:=(Deep.H_facts HH.out hp0.out hq0.out).2 7) | ((with_reducible refine gate_store (t:=3) (p:=69) rfl ?_);refine store_event (t:=3) (p:=69) (v:=?vo_wz8) (w1:=(wz7.setCell ⟨go,x5.toNat * 9+7,none⟩ (.int .i64 (wrap64 ((wrap64 ((wrap64 ((wrap64 ((wrap64 ((wrap64 ((wrap64 (x1+1))+1))+1))+1))+1))+1))+1))))) ?hg ?ho ?hn ?hr ?_;(case ho=>rfl);(case hg=>rfl);(case hn=>rfl);(case hr=>first | (go_simp;done) | (go_simp;rfl));intro wz8 hw;have hp_:=Deep.H_put HH.out hp0.out hq0.out 7 (.int .i64 (wrap64 ((wrap64 ((wrap64 ((wrap64 ((wrap64 ((wrap64 ((wrap64 (x1+1))+1))+1))+1))+1))+1))+1))) (by decide) rfl;have hg:wz7.grownBy wz8 (some go):=(by rw[hw];exact hp_.2);have n0_:=aM (show Kd.H k59 59 wz8 w0.heap.size P0_ (.slice (some ⟨go,0,none⟩) x0.length co) x0 x5 oki [.int .i64 x1,.int .i64 (wrap64 (x1+1)),.int .i64 (wrap64 ((wrap64 (x1+1))+1)),.int .i64 (wrap64 ((wrap64 ((wrap64 (x1+1))+1))+1)),.int .i64 (wrap64 ((wrap64 ((wrap64 ((wrap64 (x1+1))+1))+1))+1)),.int .i64 (wrap64 ((wrap64 ((wrap64 ((wrap64 ((wrap64 (x1+1))+1))+1))+1))+1)),.int .i64 (wrap64 ((wrap64 ((wrap64 ((wrap64 ((wrap64 ((wrap64 (x1+1))+1))+1))+1))+1))+1)),.int .i64 (wrap64 ((wrap64 ((wrap64 ((wrap64 ((wrap64 ((wrap64 ((wrap64 (x1+1))+1))+1))+1))+1))+1))+1)),vr8] from by rw[hw];exact hp_.1);have n1_:=aM (show Below w0.heap.size w0 wz8 from by rw[hw];exact below_set HB.out GB.out);have n2_:=aM (Kept.of_grown (S:=(fun k_=>P0_ k_)) hg HK.out (fun k_ e_ => .inl ((Option.some.inj e_) ▸ HM.out)));replace HL8:=aM (Kd.R_grown HL8.out hg (fun k_ hk_ e_=>(hok.out k_ hk_).2 (Option.some.inj e_)));clear HH HB HK hp_ hg hw;have HH:=n0_;have HB:=n1_;have HK:=n2_;clear n0_ n1_ n2_;have hx8:wz8.cell? ⟨go,x5.toNat * 9+8,none⟩=some (vr8):=(Deep.H_facts HH.out hp0.out hq0.out).1 8 _ rfl) | ((with_reducible refine gate_callee (f:=18) rfl ?_);refine goesL_ (some 79) rfl rfl Try.func18 (by kernel_rfl) rfl #[vr8,.int .i64 (wrap64 ((wrap64 ((wrap64 ((wrap64 ((wrap64 ((wrap64 ((wrap64 ((wrap64 (x1+1))+1))+1))+1))+1))+1))+1))+1))] rfl (by (try simp only[List.map_toArray,List.map_cons,List.map_nil]);first | done | rfl | (simp only[List.length_drop,List.length_take];rfl)) ?_;(with_reducible refine(Xh.calls k1 (fun k_=>some k_=(vr8:Value).ownBlock) vr8 ((rd_T59 x0 x5).f5.f1) (wrap64 ((wrap64 ((wrap64 ((wrap64 ((wrap64 ((wrap64 ((wrap64 ((wrap64 (x1+1))+1))+1))+1))+1))+1))+1))+1)) t1.1 t1.2 w0 _ HB.out (Kd.R_tight rfl HL8.out) At1.out).mono ?_);rintro e wz9 ⟨rfl,hy0,hb,hkp⟩;refine⟨_,rfl,?_⟩;have n0_:=aM (Kd.H_kept HH.out hkp (fun k_ _ hn_ e_=>hn_ (HL8.out.1 k_ e_.symm)));have n2_:=aM (Kept.then_ (S:=(fun k_=>P0_ k_)) HK.out hkp (fun k_ e_ => .inl (hok.out k_ (HL8.out.1 k_ e_.symm)).1));replace HL8:=aM (Kd.R_reok rfl hy0 (fun k_ e_=>HL8.out.1 k_ e_));clear HH HB HK hkp hy0;have HH:=n0_;have HB:=Aside0.mk hb;have HK:=n2_;clear n0_ n2_ hb))
     go_roundg k1
     case measure=>have:=HK1.out;omega
     case rel=>exact⟨(x0.set (x5:Int).toNat (⟨x1,⟨wrap64 (x1+1),wrap64 ((wrap64 (x1+1))+1),wrap64 ((wrap64 ((wrap64 (x1+1))+1))+1)⟩,wrap64 ((wrap64 ((wrap64 ((wrap64 (x1+1))+1))+1))+1),wrap64 ((wrap64 ((wrap64 ((wrap64 ((wrap64 (x1+1))+1))+1))+1))+1),wrap64 ((wrap64 ((wrap64 ((wrap64 ((wrap64 ((wrap64 (x1+1))+1))+1))+1))+1))+1),⟨wrap64 ((wrap64 ((wrap64 ((wrap64 ((wrap64 ((wrap64 ((wrap64 (x1+1))+1))+1))+1))+1))+1))+1),t1.2⟩⟩:S59)),t1.1,(wrap64 (x5+1)),(by first | rfl | (simp;done) | (simp[*];done)),(by first | rfl | (simp;done) | (simp[*];done)),H',⟨by have:=HK1.out;omega⟩,⟨Kd.H_back HH.out (k59_mkM _ _ _ (⟨x1,⟨wrap64 (x1+1),wrap64 ((wrap64 (x1+1))+1),wrap64 ((wrap64 ((wrap64 (x1+1))+1))+1)⟩,wrap64 ((wrap64 ((wrap64 ((wrap64 (x1+1))+1))+1))+1),wrap64 ((wrap64 ((wrap64 ((wrap64 ((wrap64 (x1+1))+1))+1))+1))+1),wrap64 ((wrap64 ((wrap64 ((wrap64 ((wrap64 ((wrap64 (x1+1))+1))+1))+1))+1))+1),⟨wrap64 ((wrap64 ((wrap64 ((wrap64 ((wrap64 ((wrap64 ((wrap64 (x1+1))+1))+1))+1))+1))+1))+1),t1.2⟩⟩:S59) HL8.out) (fun _ hk_=>hk_)⟩,HK,HB⟩
    ·rw[if_neg c4] at H
     exact absurd H (by simp)
   ·rw[if_neg c3] at H
    have c3b0:decide (x5<(x0.length:Int))=false:=decide_eq_false c3
    clear c3
    simp only[Option.some.injEq,Prod.mk.injEq] at H
    obtain⟨rfl,rfl⟩:=H
    obtain⟨Ao,co,eo⟩:=Kd.S_slice HO.out
    subst eo
    go_wp2
    go_ret
    exact⟨by first | rfl | (simp[errW_none,errW_some]<;>rfl),HO.out,HB.out,HK.out⟩
end Go.Proofs.Yteamagejhbkhnaa.P
namespace Go.Proofs.YteamagejhbkhnaaZ
open Go.RowKit Go.Proofs.YteamagejhbkhnaaW.PrintWords Go.Proofs.YteamagejhbkhnaaW.PrintLast Go.Proofs.YteamagejhbkhnaaW.PrintMore
theorem ifT {p : Prop} [Decidable p] {a : Option Bool} (h : (if p then a else some false) = some true) : p ∧ a = some true := by
  split at h
  · exact ⟨by assumption, h⟩
  · cases h
theorem ifF {p : Prop} [Decidable p] {a : Option Bool} (h : (if p then some false else a) = some true) : ¬ p ∧ a = some true := by
  split at h
  · cases h
  · exact ⟨by assumption, h⟩
theorem lt_of_blk {W w1 : World} {g t : Nat} {cs : Array Value} (_hb : Below W.heap.size W w1) (h : W.heap[g]? = some (.cells cs t (0, 0))) : g < W.heap.size := blk_lt h
section
variable {α β : Type} {d : Kd α} {d' : Kd β} {e e' : Nat} {W w1 w : World} {base base1 N : Nat} {ok ok1 okv oku : Nat → Prop} {u v v' : Value} {xs : List α} {ys : List β}
theorem S_from (h : Kd.S d e W N ok v xs) (hl : base ≤ N) : Kd.S d e W base (fun k => ok k ∧ N ≤ k) v xs := Kd.S_lower (Kd.S_mono (Kd.S_bound h) (fun _ hk => ⟨hk.1, hk.2.1⟩)) hl
theorem R_from (h : d.R e W N ok v xs) (hl : base ≤ N) : d.R e W base (fun k => ok k ∧ N ≤ k) v xs := Kd.R_lower (Kd.R_mono (Kd.R_bound h) (fun _ hk => ⟨hk.1, hk.2.1⟩)) hl
theorem two_from (h : Two d d' e e' W N ok v xs v' ys) (hl : base ≤ N) : Two d d' e e' W base (fun k => ok k ∧ N ≤ k) v xs v' ys :=
  two_map h (fun _ a => Kd.S_mono (S_from a hl) (fun _ hk => ⟨⟨hk.1.1, hk.2⟩, hk.1.2⟩)) (fun _ a => Kd.S_mono (S_from a hl) (fun _ hk => ⟨⟨hk.1.1, hk.2⟩, hk.1.2⟩))
theorem two_old (h : Two d d' e e' W base ok v xs v' ys) (hb : Below W.heap.size W w1) : Two d d' e e' w1 base (fun k => ok k ∧ k < W.heap.size) v xs v' ys :=
  two_map h (fun _ a => Kd.S_mono (Kd.S_old a hb) (fun _ hk => ⟨⟨hk.1.1, hk.2⟩, hk.1.2⟩)) (fun _ a => Kd.S_mono (Kd.S_old a hb) (fun _ hk => ⟨⟨hk.1.1, hk.2⟩, hk.1.2⟩))
end
end Go.Proofs.YteamagejhbkhnaaZ
namespace Go.Proofs.Yteamagejhbkhnaa.P
open Go.RowKit Go.Proofs.YteamagejhbkhnaaW.PrintWords Go.Proofs.YteamagejhbkhnaaW.PrintLast Go.Proofs.YteamagejhbkhnaaZ
abbrev lDesc:=S165
abbrev iDesc:=S175
def cDesc (x:lDesc):iDesc:=⟨x.f0,x.f1,x.f2.map cEntry,⟨x.f3.f0,x.f3.f1⟩⟩
def wtDesc (x:lDesc):Int:=(x.f2.length:Int)+x.f3.f1.length
def smDesc (x:iDesc):Prop:=x.f2.length≤1048576∧x.f3.f1.length≤1048576
theorem wtDesc_nn (x:lDesc):0≤wtDesc x:=by unfold wtDesc;omega
theorem smDesc_of (x:lDesc) (h:wtDesc x≤1048576):smDesc (cDesc x):=by
 unfold wtDesc at h
 simp only[smDesc,cDesc,List.length_map]
 omega
theorem szDesc_eq (x:lDesc) (t:Int) (h0:0≤t) (h1:t≤1048576) (hw:x.f2.length≤9223372036854775807∧x.f3.f1.length≤9223372036854775807):Xag.f x.f0 x.f1 x.f2 x.f3.f0 x.f3.f1 t=some (lf (wtDesc x) t):=by
 unfold wtDesc
 simp only[Xag.f]
 rw[szEntryS_eq _ t h0 h1 hw.1,Option.bind_some]
 exact lf_then (a:=(x.f2.length:Int)) (b:=(x.f3.f1.length:Int)) (G:=fun u=>(XS.f x.f3.f0 x.f3.f1 u).bind fun t103=>(if t103<0 then some (-1) else some t103)) (by omega) (by omega) h1 (fun u u0 u1=>by show (XS.f x.f3.f0 x.f3.f1 u).bind _=_;rw[szRes_eq _ _ u u0 u1 hw.2,Option.bind_some];exact lf_last (by omega))
theorem toDesc_ev (x:lDesc) (h:wtDesc x≤1048576):Ev (fun k=>Xai.f k x.f0 x.f1 x.f2 x.f3.f0 x.f3.f1) (x.f0,x.f1,x.f2.map cEntry,x.f3.f0,x.f3.f1):=by
 unfold wtDesc at h
 simp only[Xai.f]
 refine Ev.bind (toEntryS_ev _ (by omega)) (Ev.bind (toRes_ev _ _ (by omega)) (Ev.now _))
theorem eqDesc_ev (x:iDesc) (h:smDesc x):Ev (fun k=>X3.f k x.f0 x.f1 x.f2 x.f3.f0 x.f3.f1 x.f0 x.f1 x.f2 x.f3.f0 x.f3.f1) true:=by
 unfold smDesc at h
 simp only[X3.f,if_true]
 refine Ev.bind (eqEntryS_ev _ (by omega)) ?_
 simp only[if_true]
 refine Ev.bind (eqRes_ev _ _ (by omega)) ?_
 simp only[if_true]
 exact Ev.now _
theorem szDescS_ev (l:List lDesc) (hl:l.length≤9223372036854775807) (hw:∀ x ∈ l,x.f2.length≤9223372036854775807∧x.f3.f1.length≤9223372036854775807) (t:Int) (h0:0≤t) (h1:t≤1048576):Ev (fun k=>XD.f k l t) (lf (l.length+ctl wtDesc l) t):=by
 have hc:=ctl_nonneg wtDesc_nn l
 have e:wrap64 (t - (l.length:Int))=t - l.length:=w64 (by omega) (by omega)
 simp only[XD.f,e]
 by_cases h:(l.length:Int)≤t
 ·have c:¬ (t - (l.length:Int)<0):=by omega
  simp only[c,if_false]
  have h:=size_ev l wtDesc wtDesc_nn 1048576 (g:=fun k t i=>XD.l0 k l t i) ?_ ?_ ?_ (t - l.length) (by omega) (by omega)
  ·refine h.to ?_
   unfold lf
   by_cases h2:ctl wtDesc l≤t - l.length
   ·rw[if_pos h2,if_pos (by omega)];omega
   ·rw[if_neg h2,if_neg (by omega)]
  ·intro t
   refine Ev.shift ?_
   simp only[XD.l0,Int.lt_irrefl,if_false]
   exact Ev.now _
  ·intro t i x hx hi h0 h1 hlt
   have hr:rd_T165 l (i:Int)=x:=getD_get hx
   have d1:(i:Int)<(l.length:Int):=by omega
   have d2:(0:Int)≤(i:Int):=by omega
   refine Ev.shift ?_
   simp only[XD.l0,d1,d2,if_true,hr,szDesc_eq x t h0 h1 (hw x (List.mem_of_getElem? hx)),lf_neg (show ¬ wtDesc x≤t by omega),Option.bind_some,show (-1:Int)<0 by decide]
   exact Ev.now _
  ·intro t i x r hx hi h0 h1 hle h
   have hr:rd_T165 l (i:Int)=x:=getD_get hx
   have d1:(i:Int)<(l.length:Int):=by omega
   have d2:(0:Int)≤(i:Int):=by omega
   have d3:¬ (t - wtDesc x<0):=by omega
   refine Ev.shift ?_
   simp only[XD.l0,d1,d2,if_true,hr,szDesc_eq x t h0 h1 (hw x (List.mem_of_getElem? hx)),lf_pos hle,Option.bind_some,d3,if_false,succ64 hi hl]
   exact h
 ·have c:t - (l.length:Int)<0:=by omega
  simp only[c,if_true]
  exact Ev.val (lf_neg (by omega)).symm
theorem toDescS_ev (l:List lDesc) (hl:l.length≤1048576) (hw:ctl wtDesc l≤1048576):Ev (fun k=>XE.f k l) (l.map cDesc):=by
 have c1:(0:Int)≤(l.length:Int):=by omega
 simp only[XE.f,c1,if_true,Int.toNat_natCast]
 refine Ev.pos (by omega) ?_
 refine fill_ev l cDesc z175 (g:=fun k s i=>XE.l0 k l s i) ?_ ?_
 ·intro s hs
  refine Ev.shift ?_
  simp only[XE.l0,Int.lt_irrefl,if_false]
  exact Ev.now _
 ·intro s i x r hx hs hi h
  have hr:rd_T165 l (i:Int)=x:=getD_get hx
  have hm:=ctl_mem wtDesc_nn (List.mem_of_getElem? hx)
  refine Ev.shift ?_
  have d1:(i:Int)<(l.length:Int):=by omega
  have d2:(0:Int)≤(i:Int):=by omega
  have d3:(i:Int)<(s.length:Int):=by omega
  simp only[XE.l0,d1,d2,if_true,hr]
  refine Ev.bind (toDesc_ev x (by omega)) ?_
  simp only[d3,if_true,Int.toNat_natCast,succ64 hi (by omega)]
  exact h
theorem eqDescS_ev (l:List iDesc) (hl:l.length≤9223372036854775807) (hs:∀ x ∈ l,smDesc x):Ev (fun k=>Xg.f k l l) true:=by
 simp only[Xg.f,if_true]
 refine look_ev l true (g:=fun k i=>Xg.l0 k l l i) ?_ ?_
 ·refine Ev.shift ?_
  simp only[Xg.l0,Int.lt_irrefl,if_false]
  exact Ev.now _
 ·intro i x hx hi h
  have hr:rd_T175 l (i:Int)=x:=getD_get hx
  refine Ev.shift ?_
  have d1:(i:Int)<(l.length:Int):=by omega
  have d2:(0:Int)≤(i:Int):=by omega
  simp only[Xg.l0,d1,d2,if_true,hr,succ64 hi hl]
  refine Ev.bind (eqDesc_ev x (hs x (List.mem_of_getElem? hx))) ?_
  simp only[if_true]
  exact h
end Go.Proofs.Yteamagejhbkhnaa.P
