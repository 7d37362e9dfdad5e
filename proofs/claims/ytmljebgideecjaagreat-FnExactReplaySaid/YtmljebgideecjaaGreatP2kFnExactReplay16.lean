/- A part of the proof of the law FnExactReplay: texts of this seat, merged (words, printed functions of the program, plain lemmas). Conditions: none of its own. -/
import Derived.Test.YtmljebgideecjaaGreatP2kFnExactReplay11
set_option linter.unusedSimpArgs false
set_option linter.unusedVariables false
set_option maxHeartbeats 8000000
set_option maxRecDepth 100000
namespace Go.Proofs.YtmljebgideecjaaGreat.P2
open Go.Proofs.YtmljebgideecjaaGreatZ Go.RowKit Go.Proofs.YtmljebgideecjaaGreatW.PrintWords Go.Proofs.YtmljebgideecjaaGreatW.PrintLast Go.Proofs.YtmljebgideecjaaGreatW.PrintMore
attribute [local go_sem] max2_int min2_int max_two min_two max_three min_three max_four min_four   -- for this text's walks alone
def Xaq.l0:Nat→List (S73)→Int→Int→Option (Int × (List (S73)))
 | 0,_,_,_=>none
 | k+1,x0,x1,x5=>if x5<(x0.length:Int) then (if 0≤x5 then ((XX.f k (rd_T73 x0 x5).f5.f1 (wrap64 ((wrap64 ((wrap64 ((wrap64 ((wrap64 ((wrap64 ((wrap64 ((wrap64 (x1+1))+1))+1))+1))+1))+1))+1))+1))).bind fun t1=>(Xaq.l0 k (x0.set (x5:Int).toNat (⟨x1,⟨wrap64 (x1+1),wrap64 ((wrap64 (x1+1))+1),wrap64 ((wrap64 ((wrap64 (x1+1))+1))+1)⟩,wrap64 ((wrap64 ((wrap64 ((wrap64 (x1+1))+1))+1))+1),wrap64 ((wrap64 ((wrap64 ((wrap64 ((wrap64 (x1+1))+1))+1))+1))+1),wrap64 ((wrap64 ((wrap64 ((wrap64 ((wrap64 ((wrap64 (x1+1))+1))+1))+1))+1))+1),⟨wrap64 ((wrap64 ((wrap64 ((wrap64 ((wrap64 ((wrap64 ((wrap64 (x1+1))+1))+1))+1))+1))+1))+1),t1.2⟩⟩:S73)) t1.1 (wrap64 (x5+1)))) else (none)) else (some (x1,x0))
def Xaq.f (k:Nat) (l0:List (S73)) (a1:Int):Option (Int × (List (S73))):=Xaq.l0 k l0 a1 0
theorem Xaq.calls (k:Nat) (P0_:Nat→Prop) (u9000_:Value) (l0:List (S73)) (a1:Int) (r1:Int) (r2:List (S73)) (w0 w:World) (hB:Below w0.heap.size w0 w) (ho0:Kd.S k73 73 w w0.heap.size P0_ u9000_ l0) (h:Xaq.f k l0 a1=some (r1,r2)) :
  Calls Tryz.prog 75 #[u9000_,.int .i64 a1] w fun e w'=>e = .returned (.int .i64 r1)∧Kd.S k73 73 w' w0.heap.size P0_ u9000_ r2∧Below w0.heap.size w0 w'∧Kept w w' (fun k_=>P0_ k_):=by
 have HO0:=Aside0.mk ho0
 have HK:=aM (Kept.refl w (fun k_=>P0_ k_))
 have HB:=Aside0.mk hB
 clear hB ho0
 have H':=aM (show Xaq.l0 k l0 a1 0=some (r1,r2) from h)
 clear h
 go_enter Tryz.func75,Tryz.ntmps75
 go_wp2
 go_loopg [1,5] k (fun kq v1 v5 w'=>∃ (x0:List (S73)) (x1:Int) (x5:Int),v1 = .int .i64 x1∧v5 = .int .i64 x5∧Aside0 (Xaq.l0 kq x0 x1 x5=some (r1,r2))∧Aside0 (kq≤k)∧Aside0 (Kd.S k73 73 w' w0.heap.size P0_ u9000_ x0)∧Aside0 (Kept w w' (fun k_=>P0_ k_))∧Aside0 (Below w0.heap.size w0 w'))
 case atStart=>exact⟨l0,a1,0,(by first | rfl | (simp;done) | (simp[*];done)),(by first | rfl | (simp;done) | (simp[*];done)),H',⟨Nat.le_refl _⟩,HO0,HK,HB⟩
 case round =>
  clear H'
  try clear p2
  obtain⟨x0,x1,x5,rfl,rfl,HA,HK1,HO,HK,HB⟩:=hrel
  cases gk with
  | zero=>exact absurd HA.out (by simp[Xaq.l0])
  | succ k1 =>
   have H:=HA.out
   clear HA
   simp only[Xaq.l0] at H
   by_cases c3:x5<(x0.length:Int)
   ·rw[if_pos c3] at H
    have hq0:=Aside0.mk c3
    have c3b0:decide (x5<(x0.length:Int))=true:=decide_eq_true c3
    by_cases c4:0≤x5
    ·rw[if_pos c4] at H
     have hp0:=Aside0.mk c4
     have c4b0:decide (0≤x5)=true:=decide_eq_true c4
     obtain⟨t1,At1,H⟩:=Option.bind_eq_some_iff.mp H
     replace At1:=Aside0.mk At1
     have H':=Aside0.mk H
     clear H
     obtain⟨go,co,eo,gb,gl,cl,HG⟩:=Kd.S_form HO.out (by omega)
     subst eo
     have GB:=Aside0.mk gb
     clear gb gl HG
     have HM:=aM (show P0_ go from ((Kd.S_R HO.out).1 _ rfl))
     obtain⟨oki,ce,hcl,hM,hcc,hfr,hoki,hH⟩:=Kd.S_elem HO.out z73 x5 c4 c3
     obtain⟨vr8,rfl,hL8⟩:=k73_openM hM
     have hok:=Aside0.mk hoki
     have HH:=Aside0.mk hH
     have HL8:=aM (show Kd.R (Kd.int .i64) 3 wr w0.heap.size oki vr8 (rd_T73 x0 x5).f5.f1 from hL8)
     have hx0:wr.cell? ⟨go,x5.toNat * 9,none⟩=some (.int .i64 (rd_T73 x0 x5).f0):=(Deep.H_facts HH.out hp0.out hq0.out).1 0 _ rfl
     have hz0:wr.frozen? ⟨go,x5.toNat * 9,none⟩=false:=(Deep.H_facts HH.out hp0.out hq0.out).2 0
     clear hcl hM hcc hfr hoki hH hL8
     clear HO
     replace c3:=eq_true c3
     replace c4:=eq_true c4
     go_wp2_with (first | ((with_reducible refine gate_store (t:=3) (p:=16) rfl ?_);refine store_event (t:=3) (p:=16) (v:=?vo_wz1) (w1:=(wr.setCell ⟨go,x5.toNat * 9,none⟩ (.int .i64 x1))) ?hg ?ho ?hn ?hr ?_;(case ho=>rfl);(case hg=>rfl);(case hn=>rfl);(case hr=>first | (go_simp;done) | (go_simp;rfl));intro wz1 hw;have hp_:=Deep.H_put HH.out hp0.out hq0.out 0 (.int .i64 x1) (by decide) rfl;have hg:wr.grownBy wz1 (some go):=(by rw[hw];exact hp_.2);have n0_:=aM (show Kd.H k73 73 wz1 w0.heap.size P0_ (.slice (some ⟨go,0,none⟩) x0.length co) x0 x5 oki [.int .i64 x1,.int .i64 (rd_T73 x0 x5).f1.f0,.int .i64 (rd_T73 x0 x5).f1.f1,.int .i64 (rd_T73 x0 x5).f1.f2,.int .i64 (rd_T73 x0 x5).f2,.int .i64 (rd_T73 x0 x5).f3,.int .i64 (rd_T73 x0 x5).f4,.int .i64 (rd_T73 x0 x5).f5.f0,vr8] from by rw[hw];exact hp_.1);have n1_:=aM (show Below w0.heap.size w0 wz1 from by rw[hw];exact below_set HB.out GB.out);have n2_:=aM (Kept.of_grown (S:=(fun k_=>P0_ k_)) hg HK.out (fun k_ e_ => .inl ((Option.some.inj e_) ▸ HM.out)));replace HL8:=aM (Kd.R_grown HL8.out hg (fun k_ hk_ e_=>(hok.out k_ hk_).2 (Option.some.inj e_)));clear HH HB HK hp_ hg hw;have HH:=n0_;have HB:=n1_;have HK:=n2_;clear n0_ n1_ n2_;have hx1:wz1.cell? ⟨go,x5.toNat * 9+1,none⟩=some (.int .i64 (rd_T73 x0 x5).f1.f0):=(Deep.H_facts HH.out hp0.out hq0.out).1 1 _ rfl;have hz1:wz1.frozen? ⟨go,x5.toNat * 9+1,none⟩=false:=(Deep.H_facts HH.out hp0.out hq0.out).2 1) | ((with_reducible refine gate_store (t:=3) (p:=24) rfl ?_);refine store_event (t:=3) (p:=24) (v:=?vo_wz2) (w1:=(wz1.setCell ⟨go,x5.toNat * 9+1,none⟩ (.int .i64 (wrap64 (x1+1))))) ?hg ?ho ?hn ?hr ?_;(case ho=>rfl);(case hg=>rfl);(case hn=>rfl);(case hr=>first | (go_simp;done) | (go_simp;rfl));intro wz2 hw;have hp_:=Deep.H_put HH.out hp0.out hq0.out 1 (.int .i64 (wrap64 (x1+1))) (by decide) rfl;have hg:wz1.grownBy wz2 (some go):=(by rw[hw];exact hp_.2);have n0_:=aM (show Kd.H k73 73 wz2 w0.heap.size P0_ (.slice (some ⟨go,0,none⟩) x0.length co) x0 x5 oki [.int .i64 x1,.int .i64 (wrap64 (x1+1)),.int .i64 (rd_T73 x0 x5).f1.f1,.int .i64 (rd_T73 x0 x5).f1.f2,.int .i64 (rd_T73 x0 x5).f2,.int .i64 (rd_T73 x0 x5).f3,.int .i64 (rd_T73 x0 x5).f4,.int .i64 (rd_T73 x0 x5).f5.f0,vr8] from by rw[hw];exact hp_.1);have n1_:=aM (show Below w0.heap.size w0 wz2 from by rw[hw];exact below_set HB.out GB.out);have n2_:=aM (Kept.of_grown (S:=(fun k_=>P0_ k_)) hg HK.out (fun k_ e_ => .inl ((Option.some.inj e_) ▸ HM.out)));replace HL8:=aM (Kd.R_grown HL8.out hg (fun k_ hk_ e_=>(hok.out k_ hk_).2 (Option.some.inj e_)));clear HH HB HK hp_ hg hw;have HH:=n0_;have HB:=n1_;have HK:=n2_;clear n0_ n1_ n2_;have hx2:wz2.cell? ⟨go,x5.toNat * 9+2,none⟩=some (.int .i64 (rd_T73 x0 x5).f1.f1):=(Deep.H_facts HH.out hp0.out hq0.out).1 2 _ rfl;have hz2:wz2.frozen? ⟨go,x5.toNat * 9+2,none⟩=false:=(Deep.H_facts HH.out hp0.out hq0.out).2 2) | ((with_reducible refine gate_store (t:=3) (p:=32) rfl ?_);refine store_event (t:=3) (p:=32) (v:=?vo_wz3) (w1:=(wz2.setCell ⟨go,x5.toNat * 9+2,none⟩ (.int .i64 (wrap64 ((wrap64 (x1+1))+1))))) ?hg ?ho ?hn ?hr ?_;(case ho=>rfl);(case hg=>rfl);(case hn=>rfl);(case hr=>first | (go_simp;done) | (go_simp;rfl));intro wz3 hw;have hp_:=Deep.H_put HH.out hp0.out hq0.out 2 (.int .i64 (wrap64 ((wrap64 (x1+1))+1))) (by decide) rfl;have hg:wz2.grownBy wz3 (some go):=(by rw[hw];exact hp_.2);have n0_:=aM (show Kd.H k73 73 wz3 w0.heap.size P0_ (.slice (some ⟨go,0,none⟩) x0.length co) x0 x5 oki [.int .i64 x1,.int .i64 (wrap64 (x1+1)),.int .i64 (wrap64 ((wrap64 (x1+1))+1)),.int .i64 (rd_T73 x0 x5).f1.f2,.int .i64 (rd_T73 x0 x5).f2,.int .i64 (rd_T73 x0 x5).f3,.int .i64 (rd_T73 x0 x5).f4,.int .i64 (rd_T73 x0 x5).f5.f0,vr8] from by rw[hw];exact hp_.1);have n1_:=aM (show Below w0.heap.size w0 wz3 from by rw[hw];exact below_set HB.out GB.out);have n2_:=aM (Kept.of_grown (S:=(fun k_=>P0_ k_)) hg HK.out (fun k_ e_ => .inl ((Option.some.inj e_) ▸ HM.out)));replace HL8:=aM (Kd.R_grown HL8.out hg (fun k_ hk_ e_=>(hok.out k_ hk_).2 (Option.some.inj e_)));clear HH HB HK hp_ hg hw;have HH:=n0_;have HB:=n1_;have HK:=n2_;clear n0_ n1_ n2_;have hx3:wz3.cell? ⟨go,x5.toNat * 9+3,none⟩=some (.int .i64 (rd_T73 x0 x5).f1.f2):=(Deep.H_facts HH.out hp0.out hq0.out).1 3 _ rfl;have hz3:wz3.frozen? ⟨go,x5.toNat * 9+3,none⟩=false:=(Deep.H_facts HH.out hp0.out hq0.out).2 3) | ((with_reducible refine gate_store (t:=3) (p:=40) rfl ?_);refine store_event (t:=3) (p:=40) (v:=?vo_wz4) (w1:=(wz3.setCell ⟨go,x5.toNat * 9+3,none⟩ (.int .i64 (wrap64 ((wrap64 ((wrap64 (x1+1))+1))+1))))) ?hg ?ho ?hn ?hr ?_;(case ho=>rfl);(case hg=>rfl);(case hn=>rfl);(case hr=>first | (go_simp;done) | (go_simp;rfl));intro wz4 hw;have hp_:=Deep.H_put HH.out hp0.out hq0.out 3 (.int .i64 (wrap64 ((wrap64 ((wrap64 (x1+1))+1))+1))) (by decide) rfl;have hg:wz3.grownBy wz4 (some go):=(by rw[hw];exact hp_.2);have n0_:=aM (show Kd.H k73 73 wz4 w0.heap.size P0_ (.slice (some ⟨go,0,none⟩) x0.length co) x0 x5 oki [.int .i64 x1,.int .i64 (wrap64 (x1+1)),.int .i64 (wrap64 ((wrap64 (x1+1))+1)),.int .i64 (wrap64 ((wrap64 ((wrap64 (x1+1))+1))+1)),.int .i64 (rd_T73 x0 x5).f2,.int .i64 (rd_T73 x0 x5).f3,.int .i64 (rd_T73 x0 x5).f4,.int .i64 (rd_T73 x0 x5).f5.f0,vr8] from by rw[hw];exact hp_.1);have n1_:=aM (show Below w0.heap.size w0 wz4 from by rw[hw];exact below_set HB.out GB.out);have n2_:=aM (Kept.of_grown (S:=(fun k_=>P0_ k_)) hg HK.out (fun k_ e_ => .inl ((Option.some.inj e_) ▸ HM.out)));replace HL8:=aM (Kd.R_grown HL8.out hg (fun k_ hk_ e_=>(hok.out k_ hk_).2 (Option.some.inj e_)));clear HH HB HK hp_ hg hw;have HH:=n0_;have HB:=n1_;have HK:=n2_;clear n0_ n1_ n2_;have hx4:wz4.cell? ⟨go,x5.toNat * 9+4,none⟩=some (.int .i64 (rd_T73 x0 x5).f2):=(Deep.H_facts HH.out hp0.out hq0.out).1 4 _ rfl;have hz4:wz4.frozen? ⟨go,x5.toNat * 9+4,none⟩=false:=(Deep.H_facts HH.out hp0.out hq0.out).2 4) | ((with_reducible refine gate_store (t:=3) (p:=47) rfl ?_);refine store_event (t:=3) (p:=47) (v:=?vo_wz5) (w1:=(wz4.setCell ⟨go,x5.toNat * 9+4,none⟩ (.int .i64 (wrap64 ((wrap64 ((wrap64 ((wrap64 (x1+1))+1))+1))+1))))) ?hg ?ho ?hn ?hr ?_;(case ho=>rfl);(case hg=>rfl);(case hn=>rfl);(case hr=>first | (go_simp;done) | (go_simp;rfl));intro wz5 hw;have hp_:=Deep.H_put HH.out hp0.out hq0.out 4 (.int .i64 (wrap64 ((wrap64 ((wrap64 ((wrap64 (x1+1))+1))+1))+1))) (by decide) rfl;have hg:wz4.grownBy wz5 (some go):=(by rw[hw];exact hp_.2);have n0_:=aM (show Kd.H k73 73 wz5 w0.heap.size P0_ (.slice (some ⟨go,0,none⟩) x0.length co) x0 x5 oki [.int .i64 x1,.int .i64 (wrap64 (x1+1)),.int .i64 (wrap64 ((wrap64 (x1+1))+1)),.int .i64 (wrap64 ((wrap64 ((wrap64 (x1+1))+1))+1)),.int .i64 (wrap64 ((wrap64 ((wrap64 ((wrap64 (x1+1))+1))+1))+1)),.int .i64 (rd_T73 x0 x5).f3,.int .i64 (rd_T73 x0 x5).f4,.int .i64 (rd_T73 x0 x5).f5.f0,vr8] from by rw[hw];exact hp_.1);have n1_:=aM (show Below w0.heap.size w0 wz5 from by rw[hw];exact below_set HB.out GB.out);have n2_:=aM (Kept.of_grown (S:=(fun k_=>P0_ k_)) hg HK.out (fun k_ e_ => .inl ((Option.some.inj e_) ▸ HM.out)));replace HL8:=aM (Kd.R_grown HL8.out hg (fun k_ hk_ e_=>(hok.out k_ hk_).2 (Option.some.inj e_)));clear HH HB HK hp_ hg hw;have HH:=n0_;have HB:=n1_;have HK:=n2_;clear n0_ n1_ n2_;have hx5:wz5.cell? ⟨go,x5.toNat * 9+5,none⟩=some (.int .i64 (rd_T73 x0 x5).f3):=(Deep.H_facts HH.out hp0.out hq0.out).1 5 _ rfl;have hz5:wz5.frozen? ⟨go,x5.toNat * 9+5,none⟩=false:=(Deep.H_facts HH.out hp0.out hq0.out).2 5) | ((with_reducible refine gate_store (t:=3) (p:=54) rfl ?_);refine store_event (t:=3) (p:=54) (v:=?vo_wz6) (w1:=(wz5.setCell ⟨go,x5.toNat * 9+5,none⟩ (.int .i64 (wrap64 ((wrap64 ((wrap64 ((wrap64 ((wrap64 (x1+1))+1))+1))+1))+1))))) ?hg ?ho ?hn ?hr ?_;(case ho=>rfl);(case hg=>rfl);(case hn=>rfl);(case hr=>first | (go_simp;done) | (go_simp;rfl));intro wz6 hw;have hp_:=Deep.H_put HH.out hp0.out hq0.out 5 (.int .i64 (wrap64 ((wrap64 ((wrap64 ((wrap64 ((wrap64 (x1+1))+1))+1))+1))+1))) (by decide) rfl;have hg:wz5.grownBy wz6 (some go):=(by rw[hw];exact hp_.2);have n0_:=aM (show Kd.H k73 73 wz6 w0.heap.size P0_ (.slice (some ⟨go,0,none⟩) x0.length co) x0 x5 oki [.int .i64 x1,.int .i64 (wrap64 (x1+1)),.int .i64 (wrap64 ((wrap64 (x1+1))+1)),.int .i64 (wrap64 ((wrap64 ((wrap64 (x1+1))+1))+1)),.int .i64 (wrap64 ((wrap64 ((wrap64 ((wrap64 (x1+1))+1))+1))+1)),.int .i64 (wrap64 ((wrap64 ((wrap64 ((wrap64 ((wrap64 (x1+1))+1))+1))+1))+1)),.int .i64 (rd_T73 x0 x5).f4,.int .i64 (rd_T73 x0 x5).f5.f0,vr8] from by rw[hw];exact hp_.1);have n1_:=aM (show Below w0.heap.size w0 wz6 from by rw[hw];exact below_set HB.out GB.out);have n2_:=aM (Kept.of_grown (S:=(fun k_=>P0_ k_)) hg HK.out (fun k_ e_ => .inl ((Option.some.inj e_) ▸ HM.out)));replace HL8:=aM (Kd.R_grown HL8.out hg (fun k_ hk_ e_=>(hok.out k_ hk_).2 (Option.some.inj e_)));clear HH HB HK hp_ hg hw;have HH:=n0_;have HB:=n1_;have HK:=n2_;clear n0_ n1_ n2_;have hx6:wz6.cell? ⟨go,x5.toNat * 9+6,none⟩=some (.int .i64 (rd_T73 x0 x5).f4):=(Deep.H_facts HH.out hp0.out hq0.out).1 6 _ rfl;have hz6:wz6.frozen? ⟨go,x5.toNat * 9+6,none⟩=false:=(Deep.H_facts HH.out hp0.out hq0.out).2 6) | ((with_reducible refine gate_store (t:=3) (p:=61) rfl ?_);refine store_event (t:=3) (p:=61) (v:=?vo_wz7) (w1:=(wz6.setCell ⟨go,x5.toNat * 9+6,none⟩ (.int .i64 (wrap64 ((wrap64 ((wrap64 ((wrap64 ((wrap64 ((wrap64 (x1+1))+1))+1))+1))+1))+1))))) ?hg ?ho ?hn ?hr ?_;(case ho=>rfl);(case hg=>rfl);(case hn=>rfl);(case hr=>first | (go_simp;done) | (go_simp;rfl));intro wz7 hw;have hp_:=Deep.H_put HH.out hp0.out hq0.out 6 (.int .i64 (wrap64 ((wrap64 ((wrap64 ((wrap64 ((wrap64 ((wrap64 (x1+1))+1))+1))+1))+1))+1))) (by decide) rfl;have hg:wz6.grownBy wz7 (some go):=(by rw[hw];exact hp_.2);have n0_:=aM (show Kd.H k73 73 wz7 w0.heap.size P0_ (.slice (some ⟨go,0,none⟩) x0.length co) x0 x5 oki [.int .i64 x1,.int .i64 (wrap64 (x1+1)),.int .i64 (wrap64 ((wrap64 (x1+1))+1)),.int .i64 (wrap64 ((wrap64 ((wrap64 (x1+1))+1))+1)),.int .i64 (wrap64 ((wrap64 ((wrap64 ((wrap64 (x1+1))+1))+1))+1)),.int .i64 (wrap64 ((wrap64 ((wrap64 ((wrap64 ((wrap64 (x1+1))+1))+1))+1))+1)),.int .i64 (wrap64 ((wrap64 ((wrap64 ((wrap64 ((wrap64 ((wrap64 (x1+1))+1))+1))+1))+1))+1)),.int .i64 (rd_T73 x0 x5).f5.f0,vr8] from by rw[hw];exact hp_.1);have n1_:=aM (show Below w0.heap.size w0 wz7 from by rw[hw];exact below_set HB.out GB.out);have n2_:=aM (Kept.of_grown (S:=(fun k_=>P0_ k_)) hg HK.out (fun k_ e_ => .inl ((Option.some.inj e_) ▸ HM.out)));replace HL8:=aM (Kd.R_grown HL8.out hg (fun k_ hk_ e_=>(hok.out k_ hk_).2 (Option.some.inj e_)));clear HH HB HK hp_ hg hw;have HH:=n0_;have HB:=n1_;have HK:=n2_;clear n0_ n1_ n2_;have hx7:wz7.cell? ⟨go,x5.toNat * 9+7,none⟩=some (.int .i64 (rd_T73 x0 x5).f5.f0):=(Deep.H_facts HH.out hp0.out hq0.out).1 7 _ rfl;have hz7:wz7.frozen? ⟨go,x5.toNat * 9+7,none⟩=false:=(Deep.H_facts HH.out hp0.out hq0.out).2 7) | ((with_reducible refine gate_store (t:=3) (p:=69) rfl ?_);refine store_event (t:=3) (p:=69) (v:=?vo_wz8) (w1:=(wz7.setCell ⟨go,x5.toNat * 9+7,none⟩ (.int .i64 (wrap64 ((wrap64 ((wrap64 ((wrap64 ((wrap64 ((wrap64 ((wrap64 (x1+1))+1))+1))+1))+1))+1))+1))))) ?hg ?ho ?hn ?hr ?_;(case ho=>rfl);(case hg=>rfl);(case hn=>rfl);(case hr=>first | (go_simp;done) | (go_simp;rfl));intro wz8 hw;have hp_:=Deep.H_put HH.out hp0.out hq0.out 7 (.int .i64 (wrap64 ((wrap64 ((wrap64 ((wrap64 ((wrap64 ((wrap64 ((wrap64 (x1+1))+1))+1))+1))+1))+1))+1))) (by decide) rfl;have hg:wz7.grownBy wz8 (some go):=(by rw[hw];exact hp_.2);have n0_:=aM (show Kd.H k73 73 wz8 w0.heap.size P0_ (.slice (some ⟨go,0,none⟩) x0.length co) x0 x5 oki [.int .i64 x1,.int .i64 (wrap64 (x1+1)),.int .i64 (wrap64 ((wrap64 (x1+1))+1)),.int .i64 (wrap64 ((wrap64 ((wrap64 (x1+1))+1))+1)),.int .i64 (wrap64 ((wrap64 ((wrap64 ((wrap64 (x1+1))+1))+1))+1)),.int .i64 (wrap64 ((wrap64 ((wrap64 ((wrap64 ((wrap64 (x1+1))+1))+1))+1))+1)),.int .i64 (wrap64 ((wrap64 ((wrap64 ((wrap64 ((wrap64 ((wrap64 (x1+1))+1))+1))+1))+1))+1)),.int .i64 (wrap64 ((wrap64 ((wrap64 ((wrap64 ((wrap64 ((wrap64 ((wrap64 (x1+1))+1))+1))+1))+1))+1))+1)),vr8] from by rw[hw];exact hp_.1);have n1_:=aM (show Below w0.heap.size w0 wz8 from by rw[hw];exact below_set HB.out GB.out);have n2_:=aM (Kept.of_grown (S:=(fun k_=>P0_ k_)) hg HK.out (fun k_ e_ => .inl ((Option.some.inj e_) ▸ HM.out)));replace HL8:=aM (Kd.R_grown HL8.out hg (fun k_ hk_ e_=>(hok.out k_ hk_).2 (Option.some.inj e_)));clear HH HB HK hp_ hg hw;have HH:=n0_;have HB:=n1_;have HK:=n2_;clear n0_ n1_ n2_;have hx8:wz8.cell? ⟨go,x5.toNat * 9+8,none⟩=some (vr8):=(Deep.H_facts HH.out hp0.out hq0.out).1 8 _ rfl) | ((with_reducible refine gate_callee (f:=71) rfl ?_);refine goesL_ (some 79) rfl rfl Tryz.func71 (by kernel_rfl) rfl #[vr8,.int .i64 (wrap64 ((wrap64 ((wrap64 ((wrap64 ((wrap64 ((wrap64 ((wrap64 ((wrap64 (x1+1))+1))+1))+1))+1))+1))+1))+1))] rfl (by (try simp only[List.map_toArray,List.map_cons,List.map_nil]);first | done | rfl | (simp only[List.length_drop,List.length_take];rfl)) ?_;(with_reducible refine(XX.calls k1 (fun k_=>some k_=(vr8:Value).ownBlock) vr8 ((rd_T73 x0 x5).f5.f1) (wrap64 ((wrap64 ((wrap64 ((wrap64 ((wrap64 ((wrap64 ((wrap64 ((wrap64 (x1+1))+1))+1))+1))+1))+1))+1))+1)) t1.1 t1.2 w0 _ HB.out (Kd.R_tight rfl HL8.out) At1.out).mono ?_);rintro e wz9 ⟨rfl,hy0,hb,hkp⟩;refine⟨_,rfl,?_⟩;have n0_:=aM (Kd.H_kept HH.out hkp (fun k_ _ hn_ e_=>hn_ (HL8.out.1 k_ e_.symm)));have n2_:=aM (Kept.then_ (S:=(fun k_=>P0_ k_)) HK.out hkp (fun k_ e_ => .inl (hok.out k_ (HL8.out.1 k_ e_.symm)).1));replace HL8:=aM (Kd.R_reok rfl hy0 (fun k_ e_=>HL8.out.1 k_ e_));clear HH HB HK hkp hy0;have HH:=n0_;have HB:=Aside0.mk hb;have HK:=n2_;clear n0_ n2_ hb))
     go_roundg k1
     case measure=>have:=HK1.out;omega
     case rel=>exact⟨(x0.set (x5:Int).toNat (⟨x1,⟨wrap64 (x1+1),wrap64 ((wrap64 (x1+1))+1),wrap64 ((wrap64 ((wrap64 (x1+1))+1))+1)⟩,wrap64 ((wrap64 ((wrap64 ((wrap64 (x1+1))+1))+1))+1),wrap64 ((wrap64 ((wrap64 ((wrap64 ((wrap64 (x1+1))+1))+1))+1))+1),wrap64 ((wrap64 ((wrap64 ((wrap64 ((wrap64 ((wrap64 (x1+1))+1))+1))+1))+1))+1),⟨wrap64 ((wrap64 ((wrap64 ((wrap64 ((wrap64 ((wrap64 ((wrap64 (x1+1))+1))+1))+1))+1))+1))+1),t1.2⟩⟩:S73)),t1.1,(wrap64 (x5+1)),(by first | rfl | (simp;done) | (simp[*];done)),(by first | rfl | (simp;done) | (simp[*];done)),H',⟨by have:=HK1.out;omega⟩,⟨Kd.H_back HH.out (k73_mkM _ _ _ (⟨x1,⟨wrap64 (x1+1),wrap64 ((wrap64 (x1+1))+1),wrap64 ((wrap64 ((wrap64 (x1+1))+1))+1)⟩,wrap64 ((wrap64 ((wrap64 ((wrap64 (x1+1))+1))+1))+1),wrap64 ((wrap64 ((wrap64 ((wrap64 ((wrap64 (x1+1))+1))+1))+1))+1),wrap64 ((wrap64 ((wrap64 ((wrap64 ((wrap64 ((wrap64 (x1+1))+1))+1))+1))+1))+1),⟨wrap64 ((wrap64 ((wrap64 ((wrap64 ((wrap64 ((wrap64 ((wrap64 (x1+1))+1))+1))+1))+1))+1))+1),t1.2⟩⟩:S73) HL8.out) (fun _ hk_=>hk_)⟩,HK,HB⟩
    ·rw[if_neg c4] at H
     exact absurd H (by simp)
   ·rw[if_neg c3] at H
    have c3b0:decide (x5<(x0.length:Int))=false:=decide_eq_false c3
    clear c3
    simp only[Option.some.injEq,Prod.mk.injEq] at H
    obtain⟨rfl,rfl⟩:=H
    obtain⟨Ao,co,eo⟩:=Kd.S_slice HO.out
    subst eo
    go_wp2
    go_ret
    exact⟨by first | rfl | (simp[errW_none,errW_some]<;>rfl),HO.out,HB.out,HK.out⟩
def Xaf.f (k:Nat) (l0_0:List Int) (a0_1:Int) (l1_0:List Int) (a1_1:Int):Option (Bool):=(XP.f k l0_0 l1_0).bind fun t103=>(if t103=true then (if a0_1=a1_1 then (some true) else (some false)) else (some false))
theorem Xaf.calls (k:Nat) (A0_0:Option Addr) (c0_0:Nat) (l0_0:List Int) (a0_1:Int) (A1_0:Option Addr) (c1_0:Nat) (l1_0:List Int) (a1_1:Int) (r:Bool) (w:World) (h0_0:Rw (Kd.int .i64) w A0_0 c0_0 l0_0) (h1_0:Rw (Kd.int .i64) w A1_0 c1_0 l1_0) (H:Xaf.f k l0_0 a0_1 l1_0 a1_1=some r) :
  Calls Tryz.prog 23 #[.agg #[.slice A0_0 l0_0.length c0_0,.int .i64 a0_1],.agg #[.slice A1_0 l1_0.length c1_0,.int .i64 a1_1]] w fun e w'=>e = .returned (.bool r)∧Below w.heap.size w w':=by
 have hu41:=Tryz.underlying41
 obtain⟨HR0_0,HC0_0⟩:=h0_0
 obtain⟨HR1_0,HC1_0⟩:=h1_0
 have HB:=aM (Below.refl w.heap.size w)
 unfold Xaf.f at H
 replace H:=bE H;obtain⟨t103,A3,H⟩:=H
 go_enter Tryz.func23,Tryz.ntmps23
 go_wp2_with (first | (refine boxE 2 #[.slice A0_0 l0_0.length c0_0,.int .i64 a0_1] 41 ?_;intro gbz1 hg wz1 hbox hb;have BKz1:=aM (hbox);have GWz1:=aG hg HB;replace HB:=aS HB hb;clear hb hbox hg) | (refine boxE 3 #[.slice A1_0 l1_0.length c1_0,.int .i64 a1_1] 41 ?_;intro gbz2 hg wz2 hbox hb;have BKz2:=aM (hbox);have GWz2:=aG hg HB;have NBz1:=aL hg BKz1;have NBz2:=aR hg BKz1;replace BKz1:=aB BKz1 hb;replace HB:=aS HB hb;clear hb hbox hg;have hnbz1:=nB NBz1 NBz2;have hczz1:=cZ2 BKz1.out;have hczz3:=cZ2 BKz2.out;refine Stop.out ?_))
 refine⟨?_⟩
 cases t103
 case false =>
  rw[if_neg nft] at H
  obtain rfl:=sI H
  go_wp2_with (refine gD 53 9 Tryz.func53 (XP.calls _ _ _ _ _ _ _ _ _ (rW HR0_0 HB HC0_0) (rW HR1_0 HB HC1_0) A3.out) ?_;intro nd)
  go_ret
  exact⟨rE,(hX HB.out)⟩
 rw[if_pos rfl] at H
 go_wp2_with (refine gD 53 9 Tryz.func53 (XP.calls _ _ _ _ _ _ _ _ _ (rW HR0_0 HB HC0_0) (rW HR1_0 HB HC1_0) A3.out) ?_;intro nd;refine Stop.out ?_)
 refine⟨?_⟩
 revert H;refine eN ?_ ?_<;>intro c5b0 c5b1 H
 ·obtain rfl:=sI H
  exact fS
 exact fR
def Xv.l0:Nat→List (S140)→List (S140)→Int→Option (Bool)
 | 0,_,_,_=>none
 | k+1,x0,x1,x5=>if x5<(x0.length:Int) then (if 0≤x5 then (if x5<(x1.length:Int) then ((Xba.f ((rd_T140 x0 x5).f0) ((rd_T140 x0 x5).f1) ((rd_T140 x0 x5).f2) ((rd_T140 x1 x5).f0) ((rd_T140 x1 x5).f1) ((rd_T140 x1 x5).f2)).bind fun t103=>(if t103=true then (Xv.l0 k x0 x1 (wrap64 (x5+1))) else (some false))) else (none)) else (none)) else (some true)
def Xv.f (k:Nat) (l0:List (S140)) (l1:List (S140)):Option (Bool):=if (l0.length:Int)=(l1.length:Int) then (Xv.l0 k l0 l1 0) else (some false)
def Xv.T6:Bool × List (List Nat × List Nat):=(true,[([],[]),([],[]),([0,1],[0,1]),([2],[2]),([],[]),([],[]),([4,5],[4,5]),([6],[6]),([3,7],[3,7]),([8],[8])])
def Xv.B6:List Nat:=[0,0,3,7,0,0,48,112,255,511]
theorem Xv.tab6:rtab .any (opsOf Tryz.f109 6)=Xv.T6:=by kernel_rfl
theorem Xv.bits6:waitsOk Xv.T6.2 Xv.B6=true:=by kernel_rfl
theorem Xv.calls (k:Nat) (A0:Option Addr) (c0:Nat) (l0:List (S140)) (A1:Option Addr) (c1:Nat) (l1:List (S140)) (r:Bool) (w:World) (h0:Rw k140 w A0 c0 l0) (h1:Rw k140 w A1 c1 l1) (H:Xv.f k l0 l1=some r) :
  Calls Tryz.prog 109 #[.slice A0 l0.length c0,.slice A1 l1.length c1] w fun e w'=>e = .returned (.bool r)∧Below w.heap.size w w':=by
 have hu140:=Tryz.underlying140
 obtain⟨HR0,HC0⟩:=h0
 obtain⟨HR1,HC1⟩:=h1
 have HB:=aM (Below.refl w.heap.size w)
 unfold Xv.f at H
 go_enter Tryz.func109,Tryz.ntmps109
 by_cases c3:(l0.length:Int)=(l1.length:Int)
 case neg =>
  rw[if_neg c3] at H
  obtain⟨c3b0,c3b1⟩:=eqF c3
  have c3b2:(l0.length == l1.length)=false:=by first | simpa using c3 | (simp at c3 ⊢;omega)
  exact fR
 rw[if_pos c3] at H
 obtain⟨c3b0,c3b1⟩:=eqT c3
 have c3b2:(l0.length == l1.length)=true:=by first | simpa using c3 | (simp at c3 ⊢;omega)
 clear c3
 have H':=aM H
 clear H
 go_wp2
 go_loopg [5] k (fun kq v5 w'=>∃ (x5_1:Int),v5 = .int .i64 x5_1∧Aside0 (Xv.l0 kq l0 l1 x5_1=some r)∧Aside0 (kq≤k)∧Aside0 (Below w.heap.size w w'))
 case atStart=>exact⟨(0),rS,H',⟨Nat.le_refl _⟩,⟨(hX HB.out)⟩⟩
 case round =>
  clear H'
  try clear c3
  try clear c3b0
  try clear c3b1
  try clear c3b2
  obtain⟨x5_1,rfl,HA,HKy1,HB⟩:=hrel
  cases gk with
  | zero=>exact absurd HA.out (by simp[Xv.l0])
  | succ k1 =>
   have H:=HA.out
   clear HA
   simp only[Xv.l0] at H
   revert H;refine iN ?_ ?_<;>intro c4b0 H
   ·obtain rfl:=sI H
    exact fS
   replace H:=ifQ H;obtain⟨c5b0,H⟩:=H
   replace H:=ifQ H;obtain⟨c6b0,H⟩:=H
   replace H:=bE H;obtain⟨t103,A7,H⟩:=H
   try go_wp2
   obtain⟨adx1,ex1,px1,qx1,hxx1⟩:=at_T140c HR0 HB x5_1
   cases ex1
   obtain⟨adx2,ex2,px2,qx2,hxx4⟩:=at_T140c HR1 HB x5_1
   cases ex2
   refine sR0 10 Xv.tab6 Xv.bits6 (fun HT_ HW_ hHeld => ?_)
   refine zA 0 ?_
   refine zA 1 ?_
   refine zA 2 ?_
   refine zA 4 ?_
   refine zA 5 ?_
   refine zA 6 ?_
   refine tA 3 ?_
   refine tA 7 ?_
   cases t103
   case false =>
    rw[if_neg nft] at H
    obtain rfl:=sI H
    refine eB 8 Tryz.func186 (Xba.calls _ _ _ _ _ _ _ _ A7.out) (fun wx2 hb hHeld => ?_)
    replace HB:=aS HB hb
    (try clear hb)
    refine zA 9 ?_
    refine dA ?_
    try go_wp2
    go_ret
    exact⟨rE,(hX HB.out)⟩
   rw[if_pos rfl] at H
   have H':=aM H
   clear H
   refine eB 8 Tryz.func186 (Xba.calls _ _ _ _ _ _ _ _ A7.out) (fun wx2 hb hHeld => ?_)
   replace HB:=aS HB hb
   (try clear hb)
   refine zA 9 ?_
   refine dA ?_
   try go_wp2
   go_roundg k1
   case measure=>have:=HKy1.out;omega
   case rel=>exact⟨(wrap64 (x5_1+1)),rS,H',⟨by have:=HKy1.out;omega⟩,⟨(hX HB.out)⟩⟩
def XaN.f (k:Nat) (a0_0:Int) (l0_1:List Int) (a1_0:Int) (l1_1:List Int):Option (Bool):=if a0_0=a1_0 then ((XP.f k l0_1 l1_1).bind fun t103=>(if t103=true then (some true) else (some false))) else (some false)
theorem XaN.calls (k:Nat) (a0_0:Int) (A0_1:Option Addr) (c0_1:Nat) (l0_1:List Int) (a1_0:Int) (A1_1:Option Addr) (c1_1:Nat) (l1_1:List Int) (r:Bool) (w:World) (h0_1:Rw (Kd.int .i64) w A0_1 c0_1 l0_1) (h1_1:Rw (Kd.int .i64) w A1_1 c1_1 l1_1) (H:XaN.f k a0_0 l0_1 a1_0 l1_1=some r) :
  Calls Tryz.prog 190 #[.agg #[.int .i64 a0_0,.slice A0_1 l0_1.length c0_1],.agg #[.int .i64 a1_0,.slice A1_1 l1_1.length c1_1]] w fun e w'=>e = .returned (.bool r)∧Below w.heap.size w w':=by
 have hu71:=Tryz.underlying71
 obtain⟨HR0_1,HC0_1⟩:=h0_1
 obtain⟨HR1_1,HC1_1⟩:=h1_1
 have HB:=aM (Below.refl w.heap.size w)
 unfold XaN.f at H
 go_enter Tryz.func190,Tryz.ntmps190
 go_wp2_with (first | (refine boxE 2 #[.int .i64 a0_0,.slice A0_1 l0_1.length c0_1] 71 ?_;intro gbz1 hg wz1 hbox hb;have BKz1:=aM (hbox);have GWz1:=aG hg HB;replace HB:=aS HB hb;clear hb hbox hg) | (refine boxE 3 #[.int .i64 a1_0,.slice A1_1 l1_1.length c1_1] 71 ?_;intro gbz2 hg wz2 hbox hb;have BKz2:=aM (hbox);have GWz2:=aG hg HB;have NBz1:=aL hg BKz1;have NBz2:=aR hg BKz1;replace BKz1:=aB BKz1 hb;replace HB:=aS HB hb;clear hb hbox hg;have hnbz1:=nB NBz1 NBz2;have hczz1:=cZ2 BKz1.out;have hczz3:=cZ2 BKz2.out;refine Stop.out ?_))
 refine⟨?_⟩
 revert H;refine eN ?_ ?_<;>intro c3b0 c3b1 H
 ·obtain rfl:=sI H
  exact fS
 replace H:=bE H;obtain⟨t103,A4,H⟩:=H
 cases t103
 case true =>
  rw[if_pos rfl] at H
  obtain rfl:=sI H
  go_wp2_with (refine gD 53 14 Tryz.func53 (XP.calls _ _ _ _ _ _ _ _ _ (rW HR0_1 HB HC0_1) (rW HR1_1 HB HC1_1) A4.out) ?_;intro nd)
  go_ret
  exact⟨rE,(hX HB.out)⟩
 rw[if_neg nft] at H
 obtain rfl:=sI H
 go_wp2_with (refine gD 53 14 Tryz.func53 (XP.calls _ _ _ _ _ _ _ _ _ (rW HR0_1 HB HC0_1) (rW HR1_1 HB HC1_1) A4.out) ?_;intro nd)
 go_ret
 exact⟨rE,(hX HB.out)⟩
def Xs.l0:Nat→List (S165)→List (S165)→Int→Option (Bool)
 | 0,_,_,_=>none
 | k+1,x0,x1,x5=>if x5<(x0.length:Int) then (if 0≤x5 then (if x5<(x1.length:Int) then ((Xa2.f ((rd_T165 x0 x5).f0) ((rd_T165 x0 x5).f1) ((rd_T165 x0 x5).f2) ((rd_T165 x1 x5).f0) ((rd_T165 x1 x5).f1) ((rd_T165 x1 x5).f2)).bind fun t103=>(if t103=true then (Xs.l0 k x0 x1 (wrap64 (x5+1))) else (some false))) else (none)) else (none)) else (some true)
def Xs.f (k:Nat) (l0:List (S165)) (l1:List (S165)):Option (Bool):=if (l0.length:Int)=(l1.length:Int) then (Xs.l0 k l0 l1 0) else (some false)
def Xs.T6:Bool × List (List Nat × List Nat):=(true,[([],[]),([],[]),([0,1],[0,1]),([2],[2]),([],[]),([],[]),([4,5],[4,5]),([6],[6]),([3,7],[3,7]),([8],[8])])
def Xs.B6:List Nat:=[0,0,3,7,0,0,48,112,255,511]
theorem Xs.tab6:rtab .any (opsOf Tryz.f213 6)=Xs.T6:=by kernel_rfl
theorem Xs.bits6:waitsOk Xs.T6.2 Xs.B6=true:=by kernel_rfl
theorem Xs.calls (k:Nat) (A0:Option Addr) (c0:Nat) (l0:List (S165)) (A1:Option Addr) (c1:Nat) (l1:List (S165)) (r:Bool) (w:World) (h0:Rw k165 w A0 c0 l0) (h1:Rw k165 w A1 c1 l1) (H:Xs.f k l0 l1=some r) :
  Calls Tryz.prog 213 #[.slice A0 l0.length c0,.slice A1 l1.length c1] w fun e w'=>e = .returned (.bool r)∧Below w.heap.size w w':=by
 have hu165:=Tryz.underlying165
 obtain⟨HR0,HC0⟩:=h0
 obtain⟨HR1,HC1⟩:=h1
 have HB:=aM (Below.refl w.heap.size w)
 unfold Xs.f at H
 go_enter Tryz.func213,Tryz.ntmps213
 by_cases c3:(l0.length:Int)=(l1.length:Int)
 case neg =>
  rw[if_neg c3] at H
  obtain⟨c3b0,c3b1⟩:=eqF c3
  have c3b2:(l0.length == l1.length)=false:=by first | simpa using c3 | (simp at c3 ⊢;omega)
  exact fR
 rw[if_pos c3] at H
 obtain⟨c3b0,c3b1⟩:=eqT c3
 have c3b2:(l0.length == l1.length)=true:=by first | simpa using c3 | (simp at c3 ⊢;omega)
 clear c3
 have H':=aM H
 clear H
 go_wp2
 go_loopg [5] k (fun kq v5 w'=>∃ (x5_1:Int),v5 = .int .i64 x5_1∧Aside0 (Xs.l0 kq l0 l1 x5_1=some r)∧Aside0 (kq≤k)∧Aside0 (Below w.heap.size w w'))
 case atStart=>exact⟨(0),rS,H',⟨Nat.le_refl _⟩,⟨(hX HB.out)⟩⟩
 case round =>
  clear H'
  try clear c3
  try clear c3b0
  try clear c3b1
  try clear c3b2
  obtain⟨x5_1,rfl,HA,HKy1,HB⟩:=hrel
  cases gk with
  | zero=>exact absurd HA.out (by simp[Xs.l0])
  | succ k1 =>
   have H:=HA.out
   clear HA
   simp only[Xs.l0] at H
   revert H;refine iN ?_ ?_<;>intro c4b0 H
   ·obtain rfl:=sI H
    exact fS
   replace H:=ifQ H;obtain⟨c5b0,H⟩:=H
   replace H:=ifQ H;obtain⟨c6b0,H⟩:=H
   replace H:=bE H;obtain⟨t103,A7,H⟩:=H
   try go_wp2
   obtain⟨adx1,ex1,px1,qx1,hxx1⟩:=at_T165c HR0 HB x5_1
   cases ex1
   obtain⟨adx2,ex2,px2,qx2,hxx4⟩:=at_T165c HR1 HB x5_1
   cases ex2
   refine sR0 10 Xs.tab6 Xs.bits6 (fun HT_ HW_ hHeld => ?_)
   refine zA 0 ?_
   refine zA 1 ?_
   refine zA 2 ?_
   refine zA 4 ?_
   refine zA 5 ?_
   refine zA 6 ?_
   refine tA 3 ?_
   refine tA 7 ?_
   cases t103
   case false =>
    rw[if_neg nft] at H
    obtain rfl:=sI H
    refine eB 8 Tryz.func220 (Xa2.calls _ _ _ _ _ _ _ _ A7.out) (fun wx2 hb hHeld => ?_)
    replace HB:=aS HB hb
    (try clear hb)
    refine zA 9 ?_
    refine dA ?_
    try go_wp2
    go_ret
    exact⟨rE,(hX HB.out)⟩
   rw[if_pos rfl] at H
   have H':=aM H
   clear H
   refine eB 8 Tryz.func220 (Xa2.calls _ _ _ _ _ _ _ _ A7.out) (fun wx2 hb hHeld => ?_)
   replace HB:=aS HB hb
   (try clear hb)
   refine zA 9 ?_
   refine dA ?_
   try go_wp2
   go_roundg k1
   case measure=>have:=HKy1.out;omega
   case rel=>exact⟨(wrap64 (x5_1+1)),rS,H',⟨by have:=HKy1.out;omega⟩,⟨(hX HB.out)⟩⟩
def Xw.l0:Nat→List (S172)→List (S172)→Int→Option (Bool)
 | 0,_,_,_=>none
 | k+1,x0,x1,x5=>if x5<(x0.length:Int) then (if 0≤x5 then (if x5<(x1.length:Int) then ((Xbb.f ((rd_T172 x0 x5).f0) ((rd_T172 x0 x5).f1) ((rd_T172 x1 x5).f0) ((rd_T172 x1 x5).f1)).bind fun t103=>(if t103=true then (Xw.l0 k x0 x1 (wrap64 (x5+1))) else (some false))) else (none)) else (none)) else (some true)
def Xw.f (k:Nat) (l0:List (S172)) (l1:List (S172)):Option (Bool):=if (l0.length:Int)=(l1.length:Int) then (Xw.l0 k l0 l1 0) else (some false)
def Xw.T6:Bool × List (List Nat × List Nat):=(true,[([],[]),([],[]),([0,1],[0,1]),([2],[2]),([],[]),([],[]),([4,5],[4,5]),([6],[6]),([3,7],[3,7]),([8],[8])])
def Xw.B6:List Nat:=[0,0,3,7,0,0,48,112,255,511]
theorem Xw.tab6:rtab .any (opsOf Tryz.f188 6)=Xw.T6:=by kernel_rfl
theorem Xw.bits6:waitsOk Xw.T6.2 Xw.B6=true:=by kernel_rfl
theorem Xw.calls (k:Nat) (A0:Option Addr) (c0:Nat) (l0:List (S172)) (A1:Option Addr) (c1:Nat) (l1:List (S172)) (r:Bool) (w:World) (h0:Rw k172 w A0 c0 l0) (h1:Rw k172 w A1 c1 l1) (H:Xw.f k l0 l1=some r) :
  Calls Tryz.prog 188 #[.slice A0 l0.length c0,.slice A1 l1.length c1] w fun e w'=>e = .returned (.bool r)∧Below w.heap.size w w':=by
 have hu172:=Tryz.underlying172
 obtain⟨HR0,HC0⟩:=h0
 obtain⟨HR1,HC1⟩:=h1
 have HB:=aM (Below.refl w.heap.size w)
 unfold Xw.f at H
 go_enter Tryz.func188,Tryz.ntmps188
 by_cases c3:(l0.length:Int)=(l1.length:Int)
 case neg =>
  rw[if_neg c3] at H
  obtain⟨c3b0,c3b1⟩:=eqF c3
  have c3b2:(l0.length == l1.length)=false:=by first | simpa using c3 | (simp at c3 ⊢;omega)
  exact fR
 rw[if_pos c3] at H
 obtain⟨c3b0,c3b1⟩:=eqT c3
 have c3b2:(l0.length == l1.length)=true:=by first | simpa using c3 | (simp at c3 ⊢;omega)
 clear c3
 have H':=aM H
 clear H
 go_wp2
 go_loopg [5] k (fun kq v5 w'=>∃ (x5_1:Int),v5 = .int .i64 x5_1∧Aside0 (Xw.l0 kq l0 l1 x5_1=some r)∧Aside0 (kq≤k)∧Aside0 (Below w.heap.size w w'))
 case atStart=>exact⟨(0),rS,H',⟨Nat.le_refl _⟩,⟨(hX HB.out)⟩⟩
 case round =>
  clear H'
  try clear c3
  try clear c3b0
  try clear c3b1
  try clear c3b2
  obtain⟨x5_1,rfl,HA,HKy1,HB⟩:=hrel
  cases gk with
  | zero=>exact absurd HA.out (by simp[Xw.l0])
  | succ k1 =>
   have H:=HA.out
   clear HA
   simp only[Xw.l0] at H
   revert H;refine iN ?_ ?_<;>intro c4b0 H
   ·obtain rfl:=sI H
    exact fS
   replace H:=ifQ H;obtain⟨c5b0,H⟩:=H
   replace H:=ifQ H;obtain⟨c6b0,H⟩:=H
   replace H:=bE H;obtain⟨t103,A7,H⟩:=H
   try go_wp2
   obtain⟨adx1,ex1,px1,qx1,hxx1⟩:=at_T172c HR0 HB x5_1
   cases ex1
   obtain⟨adx2,ex2,px2,qx2,hxx3⟩:=at_T172c HR1 HB x5_1
   cases ex2
   refine sR0 10 Xw.tab6 Xw.bits6 (fun HT_ HW_ hHeld => ?_)
   refine zA 0 ?_
   refine zA 1 ?_
   refine zA 2 ?_
   refine zA 4 ?_
   refine zA 5 ?_
   refine zA 6 ?_
   refine tA 3 ?_
   refine tA 7 ?_
   cases t103
   case false =>
    rw[if_neg nft] at H
    obtain rfl:=sI H
    refine eB 8 Tryz.func214 (Xbb.calls _ _ _ _ _ _ A7.out) (fun wx2 hb hHeld => ?_)
    replace HB:=aS HB hb
    (try clear hb)
    refine zA 9 ?_
    refine dA ?_
    try go_wp2
    go_ret
    exact⟨rE,(hX HB.out)⟩
   rw[if_pos rfl] at H
   have H':=aM H
   clear H
   refine eB 8 Tryz.func214 (Xbb.calls _ _ _ _ _ _ A7.out) (fun wx2 hb hHeld => ?_)
   replace HB:=aS HB hb
   (try clear hb)
   refine zA 9 ?_
   refine dA ?_
   try go_wp2
   go_roundg k1
   case measure=>have:=HKy1.out;omega
   case rel=>exact⟨(wrap64 (x5_1+1)),rS,H',⟨by have:=HKy1.out;omega⟩,⟨(hX HB.out)⟩⟩
def Xx.l0:Nat→List (S174)→List (S174)→Int→Option (Bool)
 | 0,_,_,_=>none
 | k+1,x0,x1,x5=>if x5<(x0.length:Int) then (if 0≤x5 then (if x5<(x1.length:Int) then ((Xbc.f ((rd_T174 x0 x5).f0) ((rd_T174 x0 x5).f1) ((rd_T174 x0 x5).f2) ((rd_T174 x0 x5).f3) ((rd_T174 x1 x5).f0) ((rd_T174 x1 x5).f1) ((rd_T174 x1 x5).f2) ((rd_T174 x1 x5).f3)).bind fun t103=>(if t103=true then (Xx.l0 k x0 x1 (wrap64 (x5+1))) else (some false))) else (none)) else (none)) else (some true)
def Xx.f (k:Nat) (l0:List (S174)) (l1:List (S174)):Option (Bool):=if (l0.length:Int)=(l1.length:Int) then (Xx.l0 k l0 l1 0) else (some false)
def Xx.T6:Bool × List (List Nat × List Nat):=(true,[([],[]),([],[]),([0,1],[0,1]),([2],[2]),([],[]),([],[]),([4,5],[4,5]),([6],[6]),([3,7],[3,7]),([8],[8])])
def Xx.B6:List Nat:=[0,0,3,7,0,0,48,112,255,511]
theorem Xx.tab6:rtab .any (opsOf Tryz.f189 6)=Xx.T6:=by kernel_rfl
theorem Xx.bits6:waitsOk Xx.T6.2 Xx.B6=true:=by kernel_rfl
theorem Xx.calls (k:Nat) (A0:Option Addr) (c0:Nat) (l0:List (S174)) (A1:Option Addr) (c1:Nat) (l1:List (S174)) (r:Bool) (w:World) (h0:Rw k174 w A0 c0 l0) (h1:Rw k174 w A1 c1 l1) (H:Xx.f k l0 l1=some r) :
  Calls Tryz.prog 189 #[.slice A0 l0.length c0,.slice A1 l1.length c1] w fun e w'=>e = .returned (.bool r)∧Below w.heap.size w w':=by
 have hu174:=Tryz.underlying174
 obtain⟨HR0,HC0⟩:=h0
 obtain⟨HR1,HC1⟩:=h1
 have HB:=aM (Below.refl w.heap.size w)
 unfold Xx.f at H
 go_enter Tryz.func189,Tryz.ntmps189
 by_cases c3:(l0.length:Int)=(l1.length:Int)
 case neg =>
  rw[if_neg c3] at H
  obtain⟨c3b0,c3b1⟩:=eqF c3
  have c3b2:(l0.length == l1.length)=false:=by first | simpa using c3 | (simp at c3 ⊢;omega)
  exact fR
 rw[if_pos c3] at H
 obtain⟨c3b0,c3b1⟩:=eqT c3
 have c3b2:(l0.length == l1.length)=true:=by first | simpa using c3 | (simp at c3 ⊢;omega)
 clear c3
 have H':=aM H
 clear H
 go_wp2
 go_loopg [5] k (fun kq v5 w'=>∃ (x5_1:Int),v5 = .int .i64 x5_1∧Aside0 (Xx.l0 kq l0 l1 x5_1=some r)∧Aside0 (kq≤k)∧Aside0 (Below w.heap.size w w'))
 case atStart=>exact⟨(0),rS,H',⟨Nat.le_refl _⟩,⟨(hX HB.out)⟩⟩
 case round =>
  clear H'
  try clear c3
  try clear c3b0
  try clear c3b1
  try clear c3b2
  obtain⟨x5_1,rfl,HA,HKy1,HB⟩:=hrel
  cases gk with
  | zero=>exact absurd HA.out (by simp[Xx.l0])
  | succ k1 =>
   have H:=HA.out
   clear HA
   simp only[Xx.l0] at H
   revert H;refine iN ?_ ?_<;>intro c4b0 H
   ·obtain rfl:=sI H
    exact fS
   replace H:=ifQ H;obtain⟨c5b0,H⟩:=H
   replace H:=ifQ H;obtain⟨c6b0,H⟩:=H
   replace H:=bE H;obtain⟨t103,A7,H⟩:=H
   try go_wp2
   obtain⟨adx1,ex1,px1,qx1,hxx1⟩:=at_T174c HR0 HB x5_1
   cases ex1
   obtain⟨adx2,ex2,px2,qx2,hxx5⟩:=at_T174c HR1 HB x5_1
   cases ex2
   refine sR0 10 Xx.tab6 Xx.bits6 (fun HT_ HW_ hHeld => ?_)
   refine zA 0 ?_
   refine zA 1 ?_
   refine zA 2 ?_
   refine zA 4 ?_
   refine zA 5 ?_
   refine zA 6 ?_
   refine tA 3 ?_
   refine tA 7 ?_
   cases t103
   case false =>
    rw[if_neg nft] at H
    obtain rfl:=sI H
    refine eB 8 Tryz.func215 (Xbc.calls _ _ _ _ _ _ _ _ _ _ A7.out) (fun wx2 hb hHeld => ?_)
    replace HB:=aS HB hb
    (try clear hb)
    refine zA 9 ?_
    refine dA ?_
    try go_wp2
    go_ret
    exact⟨rE,(hX HB.out)⟩
   rw[if_pos rfl] at H
   have H':=aM H
   clear H
   refine eB 8 Tryz.func215 (Xbc.calls _ _ _ _ _ _ _ _ _ _ A7.out) (fun wx2 hb hHeld => ?_)
   replace HB:=aS HB hb
   (try clear hb)
   refine zA 9 ?_
   refine dA ?_
   try go_wp2
   go_roundg k1
   case measure=>have:=HKy1.out;omega
   case rel=>exact⟨(wrap64 (x5_1+1)),rS,H',⟨by have:=HKy1.out;omega⟩,⟨(hX HB.out)⟩⟩
end Go.Proofs.YtmljebgideecjaaGreat.P2
