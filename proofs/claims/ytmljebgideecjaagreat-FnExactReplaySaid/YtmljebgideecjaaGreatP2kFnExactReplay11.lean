/- A part of the proof of the law FnExactReplay: texts of this seat, merged (words, printed functions of the program, plain lemmas). Conditions: none of its own. -/
import Derived.Test.YtmljebgideecjaaGreatP2kFnExactReplay10
set_option linter.unusedSimpArgs false
set_option linter.unusedVariables false
set_option maxHeartbeats 8000000
set_option maxRecDepth 100000
namespace Go.Proofs.YtmljebgideecjaaGreat.P2
open Go.Proofs.YtmljebgideecjaaGreatZ Go.RowKit Go.Proofs.YtmljebgideecjaaGreatW.PrintWords Go.Proofs.YtmljebgideecjaaGreatW.PrintLast Go.Proofs.YtmljebgideecjaaGreatW.PrintMore
attribute [local go_sem] max2_int min2_int max_two min_two max_three min_three max_four min_four   -- for this text's walks alone
def Xal.l0:Nat→List (S165)→Int→Int→Option (Int × (List (S165)))
 | 0,_,_,_=>none
 | k+1,x0,x1,x5=>if x5<(x0.length:Int) then (if 0≤x5 then (Xal.l0 k (x0.set (x5:Int).toNat (⟨x1,wrap64 (x1+1),wrap64 ((wrap64 (x1+1))+1)⟩:S165)) (wrap64 ((wrap64 ((wrap64 (x1+1))+1))+1)) (wrap64 (x5+1))) else (none)) else (some (x1,x0))
def Xal.f (k:Nat) (l0:List (S165)) (a1:Int):Option (Int × (List (S165))):=Xal.l0 k l0 a1 0
theorem Xal.calls (k:Nat) (P0_:Nat→Prop) (u9000_:Value) (l0:List (S165)) (a1:Int) (r1:Int) (r2:List (S165)) (w0 w:World) (hB:Below w0.heap.size w0 w) (ho0:Kd.R k165 165 w w0.heap.size P0_ u9000_ l0) (h:Xal.f k l0 a1=some (r1,r2)) :
  Calls Tryz.prog 196 #[u9000_,.int .i64 a1] w fun e w'=>e = .returned (.int .i64 r1)∧Kd.R k165 165 w' w0.heap.size P0_ u9000_ r2∧Below w0.heap.size w0 w'∧Kept w w' (fun k_=>P0_ k_):=by
 have HO0:=Aside0.mk (Deep.S_flat rfl ho0)
 have HK:=aM (Kept.refl w (fun k_=>P0_ k_))
 have HB:=Aside0.mk hB
 clear hB ho0
 have H':=aM (show Xal.l0 k l0 a1 0=some (r1,r2) from h)
 clear h
 go_enter Tryz.func196,Tryz.ntmps196
 go_wp2
 go_loopg [1,5] k (fun kq v1 v5 w'=>∃ (x0:List (S165)) (x1:Int) (x5:Int),v1 = .int .i64 x1∧v5 = .int .i64 x5∧Aside0 (Xal.l0 kq x0 x1 x5=some (r1,r2))∧Aside0 (kq≤k)∧Aside0 (Kd.S k165 165 w' w0.heap.size P0_ u9000_ x0)∧Aside0 (Kept w w' (fun k_=>P0_ k_))∧Aside0 (Below w0.heap.size w0 w'))
 case atStart=>exact⟨l0,a1,0,(by first | rfl | (simp;done) | (simp[*];done)),(by first | rfl | (simp;done) | (simp[*];done)),H',⟨Nat.le_refl _⟩,HO0,HK,HB⟩
 case round =>
  clear H'
  try clear p2
  obtain⟨x0,x1,x5,rfl,rfl,HA,HK1,HO,HK,HB⟩:=hrel
  cases gk with
  | zero=>exact absurd HA.out (by simp[Xal.l0])
  | succ k1 =>
   have H:=HA.out
   clear HA
   simp only[Xal.l0] at H
   by_cases c3:x5<(x0.length:Int)
   ·rw[if_pos c3] at H
    have hq0:=Aside0.mk c3
    have c3b0:decide (x5<(x0.length:Int))=true:=decide_eq_true c3
    by_cases c4:0≤x5
    ·rw[if_pos c4] at H
     have hp0:=Aside0.mk c4
     have c4b0:decide (0≤x5)=true:=decide_eq_true c4
     have H':=Aside0.mk H
     clear H
     obtain⟨go,co,eo,gb,gl,cl,HG⟩:=Kd.S_form HO.out (by omega)
     subst eo
     have GB:=Aside0.mk gb
     clear gb gl HG
     have HM:=aM (show P0_ go from ((Kd.S_R HO.out).1 _ rfl))
     obtain⟨oki,ce,hcl,hM,hcc,hfr,hoki,hH⟩:=Kd.S_elem HO.out z165 x5 c4 c3
     obtain rfl:=k165_openM hM
     have hok:=Aside0.mk hoki
     have HH:=Aside0.mk hH
     have hx0:wr.cell? ⟨go,x5.toNat * 3,none⟩=some (.int .i64 (rd_T165 x0 x5).f0):=(Deep.H_facts HH.out hp0.out hq0.out).1 0 _ rfl
     have hz0:wr.frozen? ⟨go,x5.toNat * 3,none⟩=false:=(Deep.H_facts HH.out hp0.out hq0.out).2 0
     clear hcl hM hcc hfr hoki hH 
     clear HO
     replace c3:=eq_true c3
     replace c4:=eq_true c4
     go_wp2_with (first | ((with_reducible refine gate_store (t:=3) (p:=16) rfl ?_);refine store_event (t:=3) (p:=16) (v:=?vo_wz1) (w1:=(wr.setCell ⟨go,x5.toNat * 3,none⟩ (.int .i64 x1))) ?hg ?ho ?hn ?hr ?_;(case ho=>rfl);(case hg=>rfl);(case hn=>rfl);(case hr=>first | (go_simp;done) | (go_simp;rfl));intro wz1 hw;have hp_:=Deep.H_put HH.out hp0.out hq0.out 0 (.int .i64 x1) (by decide) rfl;have hg:wr.grownBy wz1 (some go):=(by rw[hw];exact hp_.2);have n0_:=aM (show Kd.H k165 165 wz1 w0.heap.size P0_ (.slice (some ⟨go,0,none⟩) x0.length co) x0 x5 oki [.int .i64 x1,.int .i64 (rd_T165 x0 x5).f1,.int .i64 (rd_T165 x0 x5).f2] from by rw[hw];exact hp_.1);have n1_:=aM (show Below w0.heap.size w0 wz1 from by rw[hw];exact below_set HB.out GB.out);have n2_:=aM (Kept.of_grown (S:=(fun k_=>P0_ k_)) hg HK.out (fun k_ e_ => .inl ((Option.some.inj e_) ▸ HM.out)));clear HH HB HK hp_ hg hw;have HH:=n0_;have HB:=n1_;have HK:=n2_;clear n0_ n1_ n2_;have hx1:wz1.cell? ⟨go,x5.toNat * 3+1,none⟩=some (.int .i64 (rd_T165 x0 x5).f1):=(Deep.H_facts HH.out hp0.out hq0.out).1 1 _ rfl;have hz1:wz1.frozen? ⟨go,x5.toNat * 3+1,none⟩=false:=(Deep.H_facts HH.out hp0.out hq0.out).2 1) | ((with_reducible refine gate_store (t:=3) (p:=23) rfl ?_);refine store_event (t:=3) (p:=23) (v:=?vo_wz2) (w1:=(wz1.setCell ⟨go,x5.toNat * 3+1,none⟩ (.int .i64 (wrap64 (x1+1))))) ?hg ?ho ?hn ?hr ?_;(case ho=>rfl);(case hg=>rfl);(case hn=>rfl);(case hr=>first | (go_simp;done) | (go_simp;rfl));intro wz2 hw;have hp_:=Deep.H_put HH.out hp0.out hq0.out 1 (.int .i64 (wrap64 (x1+1))) (by decide) rfl;have hg:wz1.grownBy wz2 (some go):=(by rw[hw];exact hp_.2);have n0_:=aM (show Kd.H k165 165 wz2 w0.heap.size P0_ (.slice (some ⟨go,0,none⟩) x0.length co) x0 x5 oki [.int .i64 x1,.int .i64 (wrap64 (x1+1)),.int .i64 (rd_T165 x0 x5).f2] from by rw[hw];exact hp_.1);have n1_:=aM (show Below w0.heap.size w0 wz2 from by rw[hw];exact below_set HB.out GB.out);have n2_:=aM (Kept.of_grown (S:=(fun k_=>P0_ k_)) hg HK.out (fun k_ e_ => .inl ((Option.some.inj e_) ▸ HM.out)));clear HH HB HK hp_ hg hw;have HH:=n0_;have HB:=n1_;have HK:=n2_;clear n0_ n1_ n2_;have hx2:wz2.cell? ⟨go,x5.toNat * 3+2,none⟩=some (.int .i64 (rd_T165 x0 x5).f2):=(Deep.H_facts HH.out hp0.out hq0.out).1 2 _ rfl;have hz2:wz2.frozen? ⟨go,x5.toNat * 3+2,none⟩=false:=(Deep.H_facts HH.out hp0.out hq0.out).2 2) | ((with_reducible refine gate_store (t:=3) (p:=30) rfl ?_);refine store_event (t:=3) (p:=30) (v:=?vo_wz3) (w1:=(wz2.setCell ⟨go,x5.toNat * 3+2,none⟩ (.int .i64 (wrap64 ((wrap64 (x1+1))+1))))) ?hg ?ho ?hn ?hr ?_;(case ho=>rfl);(case hg=>rfl);(case hn=>rfl);(case hr=>first | (go_simp;done) | (go_simp;rfl));intro wz3 hw;have hp_:=Deep.H_put HH.out hp0.out hq0.out 2 (.int .i64 (wrap64 ((wrap64 (x1+1))+1))) (by decide) rfl;have hg:wz2.grownBy wz3 (some go):=(by rw[hw];exact hp_.2);have n0_:=aM (show Kd.H k165 165 wz3 w0.heap.size P0_ (.slice (some ⟨go,0,none⟩) x0.length co) x0 x5 oki [.int .i64 x1,.int .i64 (wrap64 (x1+1)),.int .i64 (wrap64 ((wrap64 (x1+1))+1))] from by rw[hw];exact hp_.1);have n1_:=aM (show Below w0.heap.size w0 wz3 from by rw[hw];exact below_set HB.out GB.out);have n2_:=aM (Kept.of_grown (S:=(fun k_=>P0_ k_)) hg HK.out (fun k_ e_ => .inl ((Option.some.inj e_) ▸ HM.out)));clear HH HB HK hp_ hg hw;have HH:=n0_;have HB:=n1_;have HK:=n2_;clear n0_ n1_ n2_))
     go_roundg k1
     case measure=>have:=HK1.out;omega
     case rel=>exact⟨(x0.set (x5:Int).toNat (⟨x1,wrap64 (x1+1),wrap64 ((wrap64 (x1+1))+1)⟩:S165)),(wrap64 ((wrap64 ((wrap64 (x1+1))+1))+1)),(wrap64 (x5+1)),(by first | rfl | (simp;done) | (simp[*];done)),(by first | rfl | (simp;done) | (simp[*];done)),H',⟨by have:=HK1.out;omega⟩,⟨Kd.H_back HH.out (k165_mkM _ _ _ (⟨x1,wrap64 (x1+1),wrap64 ((wrap64 (x1+1))+1)⟩:S165) ) (fun _ hk_=>hk_)⟩,HK,HB⟩
    ·rw[if_neg c4] at H
     exact absurd H (by simp)
   ·rw[if_neg c3] at H
    have c3b0:decide (x5<(x0.length:Int))=false:=decide_eq_false c3
    clear c3
    simp only[Option.some.injEq,Prod.mk.injEq] at H
    obtain⟨rfl,rfl⟩:=H
    obtain⟨Ao,co,eo⟩:=Kd.S_slice HO.out
    subst eo
    go_wp2
    go_ret
    exact⟨by first | rfl | (simp[errW_none,errW_some]<;>rfl),Kd.S_R HO.out,HB.out,HK.out⟩
def Xax.l0:Nat→List (S69)→Int→Int→Option (Int × (List (S69)))
 | 0,_,_,_=>none
 | k+1,x0,x1,x5=>if x5<(x0.length:Int) then (if 0≤x5 then (Xax.l0 k (x0.set (x5:Int).toNat (⟨x1,wrap64 (x1+1),wrap64 ((wrap64 (x1+1))+1)⟩:S69)) (wrap64 ((wrap64 ((wrap64 (x1+1))+1))+1)) (wrap64 (x5+1))) else (none)) else (some (x1,x0))
def Xax.f (k:Nat) (l0:List (S69)) (a1:Int):Option (Int × (List (S69))):=Xax.l0 k l0 a1 0
theorem Xax.calls (k:Nat) (P0_:Nat→Prop) (u9000_:Value) (l0:List (S69)) (a1:Int) (r1:Int) (r2:List (S69)) (w0 w:World) (hB:Below w0.heap.size w0 w) (ho0:Kd.R k69 69 w w0.heap.size P0_ u9000_ l0) (h:Xax.f k l0 a1=some (r1,r2)) :
  Calls Tryz.prog 72 #[u9000_,.int .i64 a1] w fun e w'=>e = .returned (.int .i64 r1)∧Kd.R k69 69 w' w0.heap.size P0_ u9000_ r2∧Below w0.heap.size w0 w'∧Kept w w' (fun k_=>P0_ k_):=by
 have HO0:=Aside0.mk (Deep.S_flat rfl ho0)
 have HK:=aM (Kept.refl w (fun k_=>P0_ k_))
 have HB:=Aside0.mk hB
 clear hB ho0
 have H':=aM (show Xax.l0 k l0 a1 0=some (r1,r2) from h)
 clear h
 go_enter Tryz.func72,Tryz.ntmps72
 go_wp2
 go_loopg [1,5] k (fun kq v1 v5 w'=>∃ (x0:List (S69)) (x1:Int) (x5:Int),v1 = .int .i64 x1∧v5 = .int .i64 x5∧Aside0 (Xax.l0 kq x0 x1 x5=some (r1,r2))∧Aside0 (kq≤k)∧Aside0 (Kd.S k69 69 w' w0.heap.size P0_ u9000_ x0)∧Aside0 (Kept w w' (fun k_=>P0_ k_))∧Aside0 (Below w0.heap.size w0 w'))
 case atStart=>exact⟨l0,a1,0,(by first | rfl | (simp;done) | (simp[*];done)),(by first | rfl | (simp;done) | (simp[*];done)),H',⟨Nat.le_refl _⟩,HO0,HK,HB⟩
 case round =>
  clear H'
  try clear p2
  obtain⟨x0,x1,x5,rfl,rfl,HA,HK1,HO,HK,HB⟩:=hrel
  cases gk with
  | zero=>exact absurd HA.out (by simp[Xax.l0])
  | succ k1 =>
   have H:=HA.out
   clear HA
   simp only[Xax.l0] at H
   by_cases c3:x5<(x0.length:Int)
   ·rw[if_pos c3] at H
    have hq0:=Aside0.mk c3
    have c3b0:decide (x5<(x0.length:Int))=true:=decide_eq_true c3
    by_cases c4:0≤x5
    ·rw[if_pos c4] at H
     have hp0:=Aside0.mk c4
     have c4b0:decide (0≤x5)=true:=decide_eq_true c4
     have H':=Aside0.mk H
     clear H
     obtain⟨go,co,eo,gb,gl,cl,HG⟩:=Kd.S_form HO.out (by omega)
     subst eo
     have GB:=Aside0.mk gb
     clear gb gl HG
     have HM:=aM (show P0_ go from ((Kd.S_R HO.out).1 _ rfl))
     obtain⟨oki,ce,hcl,hM,hcc,hfr,hoki,hH⟩:=Kd.S_elem HO.out z69 x5 c4 c3
     obtain rfl:=k69_openM hM
     have hok:=Aside0.mk hoki
     have HH:=Aside0.mk hH
     have hx0:wr.cell? ⟨go,x5.toNat * 3,none⟩=some (.int .i64 (rd_T69 x0 x5).f0):=(Deep.H_facts HH.out hp0.out hq0.out).1 0 _ rfl
     have hz0:wr.frozen? ⟨go,x5.toNat * 3,none⟩=false:=(Deep.H_facts HH.out hp0.out hq0.out).2 0
     clear hcl hM hcc hfr hoki hH 
     clear HO
     replace c3:=eq_true c3
     replace c4:=eq_true c4
     go_wp2_with (first | ((with_reducible refine gate_store (t:=3) (p:=16) rfl ?_);refine store_event (t:=3) (p:=16) (v:=?vo_wz1) (w1:=(wr.setCell ⟨go,x5.toNat * 3,none⟩ (.int .i64 x1))) ?hg ?ho ?hn ?hr ?_;(case ho=>rfl);(case hg=>rfl);(case hn=>rfl);(case hr=>first | (go_simp;done) | (go_simp;rfl));intro wz1 hw;have hp_:=Deep.H_put HH.out hp0.out hq0.out 0 (.int .i64 x1) (by decide) rfl;have hg:wr.grownBy wz1 (some go):=(by rw[hw];exact hp_.2);have n0_:=aM (show Kd.H k69 69 wz1 w0.heap.size P0_ (.slice (some ⟨go,0,none⟩) x0.length co) x0 x5 oki [.int .i64 x1,.int .i64 (rd_T69 x0 x5).f1,.int .i64 (rd_T69 x0 x5).f2] from by rw[hw];exact hp_.1);have n1_:=aM (show Below w0.heap.size w0 wz1 from by rw[hw];exact below_set HB.out GB.out);have n2_:=aM (Kept.of_grown (S:=(fun k_=>P0_ k_)) hg HK.out (fun k_ e_ => .inl ((Option.some.inj e_) ▸ HM.out)));clear HH HB HK hp_ hg hw;have HH:=n0_;have HB:=n1_;have HK:=n2_;clear n0_ n1_ n2_;have hx1:wz1.cell? ⟨go,x5.toNat * 3+1,none⟩=some (.int .i64 (rd_T69 x0 x5).f1):=(Deep.H_facts HH.out hp0.out hq0.out).1 1 _ rfl;have hz1:wz1.frozen? ⟨go,x5.toNat * 3+1,none⟩=false:=(Deep.H_facts HH.out hp0.out hq0.out).2 1) | ((with_reducible refine gate_store (t:=3) (p:=23) rfl ?_);refine store_event (t:=3) (p:=23) (v:=?vo_wz2) (w1:=(wz1.setCell ⟨go,x5.toNat * 3+1,none⟩ (.int .i64 (wrap64 (x1+1))))) ?hg ?ho ?hn ?hr ?_;(case ho=>rfl);(case hg=>rfl);(case hn=>rfl);(case hr=>first | (go_simp;done) | (go_simp;rfl));intro wz2 hw;have hp_:=Deep.H_put HH.out hp0.out hq0.out 1 (.int .i64 (wrap64 (x1+1))) (by decide) rfl;have hg:wz1.grownBy wz2 (some go):=(by rw[hw];exact hp_.2);have n0_:=aM (show Kd.H k69 69 wz2 w0.heap.size P0_ (.slice (some ⟨go,0,none⟩) x0.length co) x0 x5 oki [.int .i64 x1,.int .i64 (wrap64 (x1+1)),.int .i64 (rd_T69 x0 x5).f2] from by rw[hw];exact hp_.1);have n1_:=aM (show Below w0.heap.size w0 wz2 from by rw[hw];exact below_set HB.out GB.out);have n2_:=aM (Kept.of_grown (S:=(fun k_=>P0_ k_)) hg HK.out (fun k_ e_ => .inl ((Option.some.inj e_) ▸ HM.out)));clear HH HB HK hp_ hg hw;have HH:=n0_;have HB:=n1_;have HK:=n2_;clear n0_ n1_ n2_;have hx2:wz2.cell? ⟨go,x5.toNat * 3+2,none⟩=some (.int .i64 (rd_T69 x0 x5).f2):=(Deep.H_facts HH.out hp0.out hq0.out).1 2 _ rfl;have hz2:wz2.frozen? ⟨go,x5.toNat * 3+2,none⟩=false:=(Deep.H_facts HH.out hp0.out hq0.out).2 2) | ((with_reducible refine gate_store (t:=3) (p:=30) rfl ?_);refine store_event (t:=3) (p:=30) (v:=?vo_wz3) (w1:=(wz2.setCell ⟨go,x5.toNat * 3+2,none⟩ (.int .i64 (wrap64 ((wrap64 (x1+1))+1))))) ?hg ?ho ?hn ?hr ?_;(case ho=>rfl);(case hg=>rfl);(case hn=>rfl);(case hr=>first | (go_simp;done) | (go_simp;rfl));intro wz3 hw;have hp_:=Deep.H_put HH.out hp0.out hq0.out 2 (.int .i64 (wrap64 ((wrap64 (x1+1))+1))) (by decide) rfl;have hg:wz2.grownBy wz3 (some go):=(by rw[hw];exact hp_.2);have n0_:=aM (show Kd.H k69 69 wz3 w0.heap.size P0_ (.slice (some ⟨go,0,none⟩) x0.length co) x0 x5 oki [.int .i64 x1,.int .i64 (wrap64 (x1+1)),.int .i64 (wrap64 ((wrap64 (x1+1))+1))] from by rw[hw];exact hp_.1);have n1_:=aM (show Below w0.heap.size w0 wz3 from by rw[hw];exact below_set HB.out GB.out);have n2_:=aM (Kept.of_grown (S:=(fun k_=>P0_ k_)) hg HK.out (fun k_ e_ => .inl ((Option.some.inj e_) ▸ HM.out)));clear HH HB HK hp_ hg hw;have HH:=n0_;have HB:=n1_;have HK:=n2_;clear n0_ n1_ n2_))
     go_roundg k1
     case measure=>have:=HK1.out;omega
     case rel=>exact⟨(x0.set (x5:Int).toNat (⟨x1,wrap64 (x1+1),wrap64 ((wrap64 (x1+1))+1)⟩:S69)),(wrap64 ((wrap64 ((wrap64 (x1+1))+1))+1)),(wrap64 (x5+1)),(by first | rfl | (simp;done) | (simp[*];done)),(by first | rfl | (simp;done) | (simp[*];done)),H',⟨by have:=HK1.out;omega⟩,⟨Kd.H_back HH.out (k69_mkM _ _ _ (⟨x1,wrap64 (x1+1),wrap64 ((wrap64 (x1+1))+1)⟩:S69) ) (fun _ hk_=>hk_)⟩,HK,HB⟩
    ·rw[if_neg c4] at H
     exact absurd H (by simp)
   ·rw[if_neg c3] at H
    have c3b0:decide (x5<(x0.length:Int))=false:=decide_eq_false c3
    clear c3
    simp only[Option.some.injEq,Prod.mk.injEq] at H
    obtain⟨rfl,rfl⟩:=H
    obtain⟨Ao,co,eo⟩:=Kd.S_slice HO.out
    subst eo
    go_wp2
    go_ret
    exact⟨by first | rfl | (simp[errW_none,errW_some]<;>rfl),Kd.S_R HO.out,HB.out,HK.out⟩
def Xan.l0:Nat→List (S172)→Int→Int→Option (Int × (List (S172)))
 | 0,_,_,_=>none
 | k+1,x0,x1,x5=>if x5<(x0.length:Int) then (if 0≤x5 then (Xan.l0 k (x0.set (x5:Int).toNat (⟨x1,wrap64 (x1+1)⟩:S172)) (wrap64 ((wrap64 (x1+1))+1)) (wrap64 (x5+1))) else (none)) else (some (x1,x0))
def Xan.f (k:Nat) (l0:List (S172)) (a1:Int):Option (Int × (List (S172))):=Xan.l0 k l0 a1 0
theorem Xan.calls (k:Nat) (P0_:Nat→Prop) (u9000_:Value) (l0:List (S172)) (a1:Int) (r1:Int) (r2:List (S172)) (w0 w:World) (hB:Below w0.heap.size w0 w) (ho0:Kd.R k172 172 w w0.heap.size P0_ u9000_ l0) (h:Xan.f k l0 a1=some (r1,r2)) :
  Calls Tryz.prog 131 #[u9000_,.int .i64 a1] w fun e w'=>e = .returned (.int .i64 r1)∧Kd.R k172 172 w' w0.heap.size P0_ u9000_ r2∧Below w0.heap.size w0 w'∧Kept w w' (fun k_=>P0_ k_):=by
 have HO0:=Aside0.mk (Deep.S_flat rfl ho0)
 have HK:=aM (Kept.refl w (fun k_=>P0_ k_))
 have HB:=Aside0.mk hB
 clear hB ho0
 have H':=aM (show Xan.l0 k l0 a1 0=some (r1,r2) from h)
 clear h
 go_enter Tryz.func131,Tryz.ntmps131
 go_wp2
 go_loopg [1,5] k (fun kq v1 v5 w'=>∃ (x0:List (S172)) (x1:Int) (x5:Int),v1 = .int .i64 x1∧v5 = .int .i64 x5∧Aside0 (Xan.l0 kq x0 x1 x5=some (r1,r2))∧Aside0 (kq≤k)∧Aside0 (Kd.S k172 172 w' w0.heap.size P0_ u9000_ x0)∧Aside0 (Kept w w' (fun k_=>P0_ k_))∧Aside0 (Below w0.heap.size w0 w'))
 case atStart=>exact⟨l0,a1,0,(by first | rfl | (simp;done) | (simp[*];done)),(by first | rfl | (simp;done) | (simp[*];done)),H',⟨Nat.le_refl _⟩,HO0,HK,HB⟩
 case round =>
  clear H'
  try clear p2
  obtain⟨x0,x1,x5,rfl,rfl,HA,HK1,HO,HK,HB⟩:=hrel
  cases gk with
  | zero=>exact absurd HA.out (by simp[Xan.l0])
  | succ k1 =>
   have H:=HA.out
   clear HA
   simp only[Xan.l0] at H
   by_cases c3:x5<(x0.length:Int)
   ·rw[if_pos c3] at H
    have hq0:=Aside0.mk c3
    have c3b0:decide (x5<(x0.length:Int))=true:=decide_eq_true c3
    by_cases c4:0≤x5
    ·rw[if_pos c4] at H
     have hp0:=Aside0.mk c4
     have c4b0:decide (0≤x5)=true:=decide_eq_true c4
     have H':=Aside0.mk H
     clear H
     obtain⟨go,co,eo,gb,gl,cl,HG⟩:=Kd.S_form HO.out (by omega)
     subst eo
     have GB:=Aside0.mk gb
     clear gb gl HG
     have HM:=aM (show P0_ go from ((Kd.S_R HO.out).1 _ rfl))
     obtain⟨oki,ce,hcl,hM,hcc,hfr,hoki,hH⟩:=Kd.S_elem HO.out z172 x5 c4 c3
     obtain rfl:=k172_openM hM
     have hok:=Aside0.mk hoki
     have HH:=Aside0.mk hH
     have hx0:wr.cell? ⟨go,x5.toNat * 2,none⟩=some (.int .i64 (rd_T172 x0 x5).f0):=(Deep.H_facts HH.out hp0.out hq0.out).1 0 _ rfl
     have hz0:wr.frozen? ⟨go,x5.toNat * 2,none⟩=false:=(Deep.H_facts HH.out hp0.out hq0.out).2 0
     clear hcl hM hcc hfr hoki hH 
     clear HO
     replace c3:=eq_true c3
     replace c4:=eq_true c4
     go_wp2_with (first | ((with_reducible refine gate_store (t:=3) (p:=16) rfl ?_);refine store_event (t:=3) (p:=16) (v:=?vo_wz1) (w1:=(wr.setCell ⟨go,x5.toNat * 2,none⟩ (.int .i64 x1))) ?hg ?ho ?hn ?hr ?_;(case ho=>rfl);(case hg=>rfl);(case hn=>rfl);(case hr=>first | (go_simp;done) | (go_simp;rfl));intro wz1 hw;have hp_:=Deep.H_put HH.out hp0.out hq0.out 0 (.int .i64 x1) (by decide) rfl;have hg:wr.grownBy wz1 (some go):=(by rw[hw];exact hp_.2);have n0_:=aM (show Kd.H k172 172 wz1 w0.heap.size P0_ (.slice (some ⟨go,0,none⟩) x0.length co) x0 x5 oki [.int .i64 x1,.int .i64 (rd_T172 x0 x5).f1] from by rw[hw];exact hp_.1);have n1_:=aM (show Below w0.heap.size w0 wz1 from by rw[hw];exact below_set HB.out GB.out);have n2_:=aM (Kept.of_grown (S:=(fun k_=>P0_ k_)) hg HK.out (fun k_ e_ => .inl ((Option.some.inj e_) ▸ HM.out)));clear HH HB HK hp_ hg hw;have HH:=n0_;have HB:=n1_;have HK:=n2_;clear n0_ n1_ n2_;have hx1:wz1.cell? ⟨go,x5.toNat * 2+1,none⟩=some (.int .i64 (rd_T172 x0 x5).f1):=(Deep.H_facts HH.out hp0.out hq0.out).1 1 _ rfl;have hz1:wz1.frozen? ⟨go,x5.toNat * 2+1,none⟩=false:=(Deep.H_facts HH.out hp0.out hq0.out).2 1) | ((with_reducible refine gate_store (t:=3) (p:=23) rfl ?_);refine store_event (t:=3) (p:=23) (v:=?vo_wz2) (w1:=(wz1.setCell ⟨go,x5.toNat * 2+1,none⟩ (.int .i64 (wrap64 (x1+1))))) ?hg ?ho ?hn ?hr ?_;(case ho=>rfl);(case hg=>rfl);(case hn=>rfl);(case hr=>first | (go_simp;done) | (go_simp;rfl));intro wz2 hw;have hp_:=Deep.H_put HH.out hp0.out hq0.out 1 (.int .i64 (wrap64 (x1+1))) (by decide) rfl;have hg:wz1.grownBy wz2 (some go):=(by rw[hw];exact hp_.2);have n0_:=aM (show Kd.H k172 172 wz2 w0.heap.size P0_ (.slice (some ⟨go,0,none⟩) x0.length co) x0 x5 oki [.int .i64 x1,.int .i64 (wrap64 (x1+1))] from by rw[hw];exact hp_.1);have n1_:=aM (show Below w0.heap.size w0 wz2 from by rw[hw];exact below_set HB.out GB.out);have n2_:=aM (Kept.of_grown (S:=(fun k_=>P0_ k_)) hg HK.out (fun k_ e_ => .inl ((Option.some.inj e_) ▸ HM.out)));clear HH HB HK hp_ hg hw;have HH:=n0_;have HB:=n1_;have HK:=n2_;clear n0_ n1_ n2_))
     go_roundg k1
     case measure=>have:=HK1.out;omega
     case rel=>exact⟨(x0.set (x5:Int).toNat (⟨x1,wrap64 (x1+1)⟩:S172)),(wrap64 ((wrap64 (x1+1))+1)),(wrap64 (x5+1)),(by first | rfl | (simp;done) | (simp[*];done)),(by first | rfl | (simp;done) | (simp[*];done)),H',⟨by have:=HK1.out;omega⟩,⟨Kd.H_back HH.out (k172_mkM _ _ _ (⟨x1,wrap64 (x1+1)⟩:S172) ) (fun _ hk_=>hk_)⟩,HK,HB⟩
    ·rw[if_neg c4] at H
     exact absurd H (by simp)
   ·rw[if_neg c3] at H
    have c3b0:decide (x5<(x0.length:Int))=false:=decide_eq_false c3
    clear c3
    simp only[Option.some.injEq,Prod.mk.injEq] at H
    obtain⟨rfl,rfl⟩:=H
    obtain⟨Ao,co,eo⟩:=Kd.S_slice HO.out
    subst eo
    go_wp2
    go_ret
    exact⟨by first | rfl | (simp[errW_none,errW_some]<;>rfl),Kd.S_R HO.out,HB.out,HK.out⟩
def Xao.l0:Nat→List (S174)→Int→Int→Option (Int × (List (S174)))
 | 0,_,_,_=>none
 | k+1,x0,x1,x5=>if x5<(x0.length:Int) then (if 0≤x5 then (Xao.l0 k (x0.set (x5:Int).toNat (⟨x1,wrap64 (x1+1),wrap64 ((wrap64 (x1+1))+1),wrap64 ((wrap64 ((wrap64 (x1+1))+1))+1)⟩:S174)) (wrap64 ((wrap64 ((wrap64 ((wrap64 (x1+1))+1))+1))+1)) (wrap64 (x5+1))) else (none)) else (some (x1,x0))
def Xao.f (k:Nat) (l0:List (S174)) (a1:Int):Option (Int × (List (S174))):=Xao.l0 k l0 a1 0
theorem Xao.calls (k:Nat) (P0_:Nat→Prop) (u9000_:Value) (l0:List (S174)) (a1:Int) (r1:Int) (r2:List (S174)) (w0 w:World) (hB:Below w0.heap.size w0 w) (ho0:Kd.R k174 174 w w0.heap.size P0_ u9000_ l0) (h:Xao.f k l0 a1=some (r1,r2)) :
  Calls Tryz.prog 132 #[u9000_,.int .i64 a1] w fun e w'=>e = .returned (.int .i64 r1)∧Kd.R k174 174 w' w0.heap.size P0_ u9000_ r2∧Below w0.heap.size w0 w'∧Kept w w' (fun k_=>P0_ k_):=by
 have HO0:=Aside0.mk (Deep.S_flat rfl ho0)
 have HK:=aM (Kept.refl w (fun k_=>P0_ k_))
 have HB:=Aside0.mk hB
 clear hB ho0
 have H':=aM (show Xao.l0 k l0 a1 0=some (r1,r2) from h)
 clear h
 go_enter Tryz.func132,Tryz.ntmps132
 go_wp2
 go_loopg [1,5] k (fun kq v1 v5 w'=>∃ (x0:List (S174)) (x1:Int) (x5:Int),v1 = .int .i64 x1∧v5 = .int .i64 x5∧Aside0 (Xao.l0 kq x0 x1 x5=some (r1,r2))∧Aside0 (kq≤k)∧Aside0 (Kd.S k174 174 w' w0.heap.size P0_ u9000_ x0)∧Aside0 (Kept w w' (fun k_=>P0_ k_))∧Aside0 (Below w0.heap.size w0 w'))
 case atStart=>exact⟨l0,a1,0,(by first | rfl | (simp;done) | (simp[*];done)),(by first | rfl | (simp;done) | (simp[*];done)),H',⟨Nat.le_refl _⟩,HO0,HK,HB⟩
 case round =>
  clear H'
  try clear p2
  obtain⟨x0,x1,x5,rfl,rfl,HA,HK1,HO,HK,HB⟩:=hrel
  cases gk with
  | zero=>exact absurd HA.out (by simp[Xao.l0])
  | succ k1 =>
   have H:=HA.out
   clear HA
   simp only[Xao.l0] at H
   by_cases c3:x5<(x0.length:Int)
   ·rw[if_pos c3] at H
    have hq0:=Aside0.mk c3
    have c3b0:decide (x5<(x0.length:Int))=true:=decide_eq_true c3
    by_cases c4:0≤x5
    ·rw[if_pos c4] at H
     have hp0:=Aside0.mk c4
     have c4b0:decide (0≤x5)=true:=decide_eq_true c4
     have H':=Aside0.mk H
     clear H
     obtain⟨go,co,eo,gb,gl,cl,HG⟩:=Kd.S_form HO.out (by omega)
     subst eo
     have GB:=Aside0.mk gb
     clear gb gl HG
     have HM:=aM (show P0_ go from ((Kd.S_R HO.out).1 _ rfl))
     obtain⟨oki,ce,hcl,hM,hcc,hfr,hoki,hH⟩:=Kd.S_elem HO.out z174 x5 c4 c3
     obtain rfl:=k174_openM hM
     have hok:=Aside0.mk hoki
     have HH:=Aside0.mk hH
     have hx0:wr.cell? ⟨go,x5.toNat * 4,none⟩=some (.int .i64 (rd_T174 x0 x5).f0):=(Deep.H_facts HH.out hp0.out hq0.out).1 0 _ rfl
     have hz0:wr.frozen? ⟨go,x5.toNat * 4,none⟩=false:=(Deep.H_facts HH.out hp0.out hq0.out).2 0
     clear hcl hM hcc hfr hoki hH 
     clear HO
     replace c3:=eq_true c3
     replace c4:=eq_true c4
     go_wp2_with (first | ((with_reducible refine gate_store (t:=3) (p:=16) rfl ?_);refine store_event (t:=3) (p:=16) (v:=?vo_wz1) (w1:=(wr.setCell ⟨go,x5.toNat * 4,none⟩ (.int .i64 x1))) ?hg ?ho ?hn ?hr ?_;(case ho=>rfl);(case hg=>rfl);(case hn=>rfl);(case hr=>first | (go_simp;done) | (go_simp;rfl));intro wz1 hw;have hp_:=Deep.H_put HH.out hp0.out hq0.out 0 (.int .i64 x1) (by decide) rfl;have hg:wr.grownBy wz1 (some go):=(by rw[hw];exact hp_.2);have n0_:=aM (show Kd.H k174 174 wz1 w0.heap.size P0_ (.slice (some ⟨go,0,none⟩) x0.length co) x0 x5 oki [.int .i64 x1,.int .i64 (rd_T174 x0 x5).f1,.int .i64 (rd_T174 x0 x5).f2,.int .i64 (rd_T174 x0 x5).f3] from by rw[hw];exact hp_.1);have n1_:=aM (show Below w0.heap.size w0 wz1 from by rw[hw];exact below_set HB.out GB.out);have n2_:=aM (Kept.of_grown (S:=(fun k_=>P0_ k_)) hg HK.out (fun k_ e_ => .inl ((Option.some.inj e_) ▸ HM.out)));clear HH HB HK hp_ hg hw;have HH:=n0_;have HB:=n1_;have HK:=n2_;clear n0_ n1_ n2_;have hx1:wz1.cell? ⟨go,x5.toNat * 4+1,none⟩=some (.int .i64 (rd_T174 x0 x5).f1):=(Deep.H_facts HH.out hp0.out hq0.out).1 1 _ rfl;have hz1:wz1.frozen? ⟨go,x5.toNat * 4+1,none⟩=false:=(Deep.H_facts HH.out hp0.out hq0.out).2 1) | ((with_reducible refine gate_store (t:=3) (p:=23) rfl ?_);refine store_event (t:=3) (p:=23) (v:=?vo_wz2) (w1:=(wz1.setCell ⟨go,x5.toNat * 4+1,none⟩ (.int .i64 (wrap64 (x1+1))))) ?hg ?ho ?hn ?hr ?_;(case ho=>rfl);(case hg=>rfl);(case hn=>rfl);(case hr=>first | (go_simp;done) | (go_simp;rfl));intro wz2 hw;have hp_:=Deep.H_put HH.out hp0.out hq0.out 1 (.int .i64 (wrap64 (x1+1))) (by decide) rfl;have hg:wz1.grownBy wz2 (some go):=(by rw[hw];exact hp_.2);have n0_:=aM (show Kd.H k174 174 wz2 w0.heap.size P0_ (.slice (some ⟨go,0,none⟩) x0.length co) x0 x5 oki [.int .i64 x1,.int .i64 (wrap64 (x1+1)),.int .i64 (rd_T174 x0 x5).f2,.int .i64 (rd_T174 x0 x5).f3] from by rw[hw];exact hp_.1);have n1_:=aM (show Below w0.heap.size w0 wz2 from by rw[hw];exact below_set HB.out GB.out);have n2_:=aM (Kept.of_grown (S:=(fun k_=>P0_ k_)) hg HK.out (fun k_ e_ => .inl ((Option.some.inj e_) ▸ HM.out)));clear HH HB HK hp_ hg hw;have HH:=n0_;have HB:=n1_;have HK:=n2_;clear n0_ n1_ n2_;have hx2:wz2.cell? ⟨go,x5.toNat * 4+2,none⟩=some (.int .i64 (rd_T174 x0 x5).f2):=(Deep.H_facts HH.out hp0.out hq0.out).1 2 _ rfl;have hz2:wz2.frozen? ⟨go,x5.toNat * 4+2,none⟩=false:=(Deep.H_facts HH.out hp0.out hq0.out).2 2) | ((with_reducible refine gate_store (t:=3) (p:=30) rfl ?_);refine store_event (t:=3) (p:=30) (v:=?vo_wz3) (w1:=(wz2.setCell ⟨go,x5.toNat * 4+2,none⟩ (.int .i64 (wrap64 ((wrap64 (x1+1))+1))))) ?hg ?ho ?hn ?hr ?_;(case ho=>rfl);(case hg=>rfl);(case hn=>rfl);(case hr=>first | (go_simp;done) | (go_simp;rfl));intro wz3 hw;have hp_:=Deep.H_put HH.out hp0.out hq0.out 2 (.int .i64 (wrap64 ((wrap64 (x1+1))+1))) (by decide) rfl;have hg:wz2.grownBy wz3 (some go):=(by rw[hw];exact hp_.2);have n0_:=aM (show Kd.H k174 174 wz3 w0.heap.size P0_ (.slice (some ⟨go,0,none⟩) x0.length co) x0 x5 oki [.int .i64 x1,.int .i64 (wrap64 (x1+1)),.int .i64 (wrap64 ((wrap64 (x1+1))+1)),.int .i64 (rd_T174 x0 x5).f3] from by rw[hw];exact hp_.1);have n1_:=aM (show Below w0.heap.size w0 wz3 from by rw[hw];exact below_set HB.out GB.out);have n2_:=aM (Kept.of_grown (S:=(fun k_=>P0_ k_)) hg HK.out (fun k_ e_ => .inl ((Option.some.inj e_) ▸ HM.out)));clear HH HB HK hp_ hg hw;have HH:=n0_;have HB:=n1_;have HK:=n2_;clear n0_ n1_ n2_;have hx3:wz3.cell? ⟨go,x5.toNat * 4+3,none⟩=some (.int .i64 (rd_T174 x0 x5).f3):=(Deep.H_facts HH.out hp0.out hq0.out).1 3 _ rfl;have hz3:wz3.frozen? ⟨go,x5.toNat * 4+3,none⟩=false:=(Deep.H_facts HH.out hp0.out hq0.out).2 3) | ((with_reducible refine gate_store (t:=3) (p:=37) rfl ?_);refine store_event (t:=3) (p:=37) (v:=?vo_wz4) (w1:=(wz3.setCell ⟨go,x5.toNat * 4+3,none⟩ (.int .i64 (wrap64 ((wrap64 ((wrap64 (x1+1))+1))+1))))) ?hg ?ho ?hn ?hr ?_;(case ho=>rfl);(case hg=>rfl);(case hn=>rfl);(case hr=>first | (go_simp;done) | (go_simp;rfl));intro wz4 hw;have hp_:=Deep.H_put HH.out hp0.out hq0.out 3 (.int .i64 (wrap64 ((wrap64 ((wrap64 (x1+1))+1))+1))) (by decide) rfl;have hg:wz3.grownBy wz4 (some go):=(by rw[hw];exact hp_.2);have n0_:=aM (show Kd.H k174 174 wz4 w0.heap.size P0_ (.slice (some ⟨go,0,none⟩) x0.length co) x0 x5 oki [.int .i64 x1,.int .i64 (wrap64 (x1+1)),.int .i64 (wrap64 ((wrap64 (x1+1))+1)),.int .i64 (wrap64 ((wrap64 ((wrap64 (x1+1))+1))+1))] from by rw[hw];exact hp_.1);have n1_:=aM (show Below w0.heap.size w0 wz4 from by rw[hw];exact below_set HB.out GB.out);have n2_:=aM (Kept.of_grown (S:=(fun k_=>P0_ k_)) hg HK.out (fun k_ e_ => .inl ((Option.some.inj e_) ▸ HM.out)));clear HH HB HK hp_ hg hw;have HH:=n0_;have HB:=n1_;have HK:=n2_;clear n0_ n1_ n2_))
     go_roundg k1
     case measure=>have:=HK1.out;omega
     case rel=>exact⟨(x0.set (x5:Int).toNat (⟨x1,wrap64 (x1+1),wrap64 ((wrap64 (x1+1))+1),wrap64 ((wrap64 ((wrap64 (x1+1))+1))+1)⟩:S174)),(wrap64 ((wrap64 ((wrap64 ((wrap64 (x1+1))+1))+1))+1)),(wrap64 (x5+1)),(by first | rfl | (simp;done) | (simp[*];done)),(by first | rfl | (simp;done) | (simp[*];done)),H',⟨by have:=HK1.out;omega⟩,⟨Kd.H_back HH.out (k174_mkM _ _ _ (⟨x1,wrap64 (x1+1),wrap64 ((wrap64 (x1+1))+1),wrap64 ((wrap64 ((wrap64 (x1+1))+1))+1)⟩:S174) ) (fun _ hk_=>hk_)⟩,HK,HB⟩
    ·rw[if_neg c4] at H
     exact absurd H (by simp)
   ·rw[if_neg c3] at H
    have c3b0:decide (x5<(x0.length:Int))=false:=decide_eq_false c3
    clear c3
    simp only[Option.some.injEq,Prod.mk.injEq] at H
    obtain⟨rfl,rfl⟩:=H
    obtain⟨Ao,co,eo⟩:=Kd.S_slice HO.out
    subst eo
    go_wp2
    go_ret
    exact⟨by first | rfl | (simp[errW_none,errW_some]<;>rfl),Kd.S_R HO.out,HB.out,HK.out⟩
def XP.l0:Nat→List Int→List Int→Int→Option (Bool)
 | 0,_,_,_=>none
 | k+1,x0,x1,x5=>if x5<(x0.length:Int) then (if 0≤x5 then (if x5<(x1.length:Int) then (if (rd x0 x5)=(rd x1 x5) then (XP.l0 k x0 x1 (wrap64 (x5+1))) else (some false)) else (none)) else (none)) else (some true)
def XP.f (k:Nat) (l0:List Int) (l1:List Int):Option (Bool):=if (l0.length:Int)=(l1.length:Int) then (XP.l0 k l0 l1 0) else (some false)
theorem XP.calls (k:Nat) (A0:Option Addr) (c0:Nat) (l0:List Int) (A1:Option Addr) (c1:Nat) (l1:List Int) (r:Bool) (w:World) (h0:Rw (Kd.int .i64) w A0 c0 l0) (h1:Rw (Kd.int .i64) w A1 c1 l1) (H:XP.f k l0 l1=some r) :
  Calls Tryz.prog 53 #[.slice A0 l0.length c0,.slice A1 l1.length c1] w fun e w'=>e = .returned (.bool r)∧Drawn0 w w':=by
 obtain⟨HR0,HC0⟩:=h0
 obtain⟨HR1,HC1⟩:=h1
 unfold XP.f at H
 go_enter Tryz.func53,Tryz.ntmps53
 by_cases c3:(l0.length:Int)=(l1.length:Int)
 case neg =>
  rw[if_neg c3] at H
  obtain⟨c3b0,c3b1⟩:=eqF c3
  have c3b2:(l0.length == l1.length)=false:=by first | simpa using c3 | (simp at c3 ⊢;omega)
  obtain rfl:=sI H
  go_wp2
  repeat (go_quiet (fail);try go_wp2)
  go_ret
  exact⟨by first | rfl | (simp;done) | (simp[*];done),dX⟩
 rw[if_pos c3] at H
 obtain⟨c3b0,c3b1⟩:=eqT c3
 have c3b2:(l0.length == l1.length)=true:=by first | simpa using c3 | (simp at c3 ⊢;omega)
 clear c3
 have H':=aM H
 clear H
 go_wp2
 repeat (go_quiet (fail);try go_wp2)
 go_loopg [5] k (fun kq v5 w'=>∃ (x5_1:Int),v5 = .int .i64 x5_1∧Aside0 (XP.l0 kq l0 l1 x5_1=some r)∧Aside0 (kq≤k)∧Drawn0 w w')
 case atStart=>exact⟨(0),rS,H',⟨Nat.le_refl _⟩,dX⟩
 case round =>
  clear H'
  try clear c3
  try clear c3b0
  try clear c3b1
  try clear c3b2
  obtain⟨x5_1,rfl,HA,HKy1,⟨my1,rfl⟩⟩:=hrel
  cases gk with
  | zero=>exact absurd HA.out (by simp[XP.l0])
  | succ k1 =>
   have H:=HA.out
   clear HA
   simp only[XP.l0] at H
   revert H;refine iN ?_ ?_<;>intro c4b0 H
   ·obtain rfl:=sI H
    go_wp2
    repeat (go_quiet (fail);try go_wp2)
    go_ret
    exact⟨by first | rfl | (simp;done) | (simp[*];done),dX⟩
   replace H:=ifQ H;obtain⟨c5b0,H⟩:=H
   replace H:=ifQ H;obtain⟨c6b0,H⟩:=H
   revert H;refine eN ?_ ?_<;>intro c7b0 c7b1 H
   ·obtain rfl:=sI H
    have px1:0≤(x5_1:Int):=odA
    have qx1:x5_1<(l0.length:Int):=odA
    obtain⟨adx1,ex1,hxx1⟩:=Kd.at_int HR0.out x5_1 px1 qx1
    cases ex1
    replace px1:=eq_true px1
    replace qx1:=eq_true qx1
    have px2:0≤(x5_1:Int):=odA
    have qx2:x5_1<(l1.length:Int):=odA
    obtain⟨adx2,ex2,hxx2⟩:=Kd.at_int HR1.out x5_1 px2 qx2
    cases ex2
    replace px2:=eq_true px2
    replace qx2:=eq_true qx2
    go_wp2
    repeat (go_quiet (fail);try go_wp2)
    go_ret
    exact⟨by first | rfl | (simp;done) | (simp[*];done),dX⟩
   have H':=aM H
   clear H
   have px1:0≤(x5_1:Int):=odA
   have qx1:x5_1<(l0.length:Int):=odA
   obtain⟨adx1,ex1,hxx1⟩:=Kd.at_int HR0.out x5_1 px1 qx1
   cases ex1
   replace px1:=eq_true px1
   replace qx1:=eq_true qx1
   have px2:0≤(x5_1:Int):=odA
   have qx2:x5_1<(l1.length:Int):=odA
   obtain⟨adx2,ex2,hxx2⟩:=Kd.at_int HR1.out x5_1 px2 qx2
   cases ex2
   replace px2:=eq_true px2
   replace qx2:=eq_true qx2
   go_wp2
   repeat (go_quiet (fail);try go_wp2)
   go_roundg k1
   case measure=>have:=HKy1.out;omega
   case rel=>exact⟨(wrap64 (x5_1+1)),rS,H',⟨by have:=HKy1.out;omega⟩,dX⟩
def Xba.f (a0_0:Int) (a0_1:Int) (a0_2:Int) (a1_0:Int) (a1_1:Int) (a1_2:Int):Option (Bool):=if a0_0=a1_0 then (if a0_1=a1_1 then (if a0_2=a1_2 then (some true) else (some false)) else (some false)) else (some false)
theorem Xba.calls (a0_0:Int) (a0_1:Int) (a0_2:Int) (a1_0:Int) (a1_1:Int) (a1_2:Int) (r:Bool) (w:World) (H:Xba.f a0_0 a0_1 a0_2 a1_0 a1_1 a1_2=some r) :
  Calls Tryz.prog 186 #[.agg #[.int .i64 a0_0,.int .i64 a0_1,.int .i64 a0_2],.agg #[.int .i64 a1_0,.int .i64 a1_1,.int .i64 a1_2]] w fun e w'=>e = .returned (.bool r)∧Below w.heap.size w w':=by
 have hu140:=Tryz.underlying140
 have HB:=aM (Below.refl w.heap.size w)
 unfold Xba.f at H
 go_enter Tryz.func186,Tryz.ntmps186
 go_wp2_with (first | (refine boxE 2 #[.int .i64 a0_0,.int .i64 a0_1,.int .i64 a0_2] 140 ?_;intro gbz1 hg wz1 hbox hb;have BKz1:=aM (hbox);have GWz1:=aG hg HB;replace HB:=aS HB hb;clear hb hbox hg) | (refine boxE 3 #[.int .i64 a1_0,.int .i64 a1_1,.int .i64 a1_2] 140 ?_;intro gbz2 hg wz2 hbox hb;have BKz2:=aM (hbox);have GWz2:=aG hg HB;have NBz1:=aL hg BKz1;have NBz2:=aR hg BKz1;replace BKz1:=aB BKz1 hb;replace HB:=aS HB hb;clear hb hbox hg;have hnbz1:=nB NBz1 NBz2;have hczz1:=cZ3 BKz1.out;have hczz4:=cZ3 BKz2.out;refine Stop.out ?_))
 refine⟨?_⟩
 revert H;refine eN ?_ ?_<;>intro c3b0 c3b1 H
 ·obtain rfl:=sI H
  exact fS
 revert H;refine eN ?_ ?_<;>intro c4b0 c4b1 H
 ·obtain rfl:=sI H
  exact fS
 revert H;refine eN ?_ ?_<;>intro c5b0 c5b1 H
 ·obtain rfl:=sI H
  exact fS
 exact fR
def Xa2.f (a0_0:Int) (a0_1:Int) (a0_2:Int) (a1_0:Int) (a1_1:Int) (a1_2:Int):Option (Bool):=if a0_0=a1_0 then (if a0_1=a1_1 then (if a0_2=a1_2 then (some true) else (some false)) else (some false)) else (some false)
theorem Xa2.calls (a0_0:Int) (a0_1:Int) (a0_2:Int) (a1_0:Int) (a1_1:Int) (a1_2:Int) (r:Bool) (w:World) (H:Xa2.f a0_0 a0_1 a0_2 a1_0 a1_1 a1_2=some r) :
  Calls Tryz.prog 220 #[.agg #[.int .i64 a0_0,.int .i64 a0_1,.int .i64 a0_2],.agg #[.int .i64 a1_0,.int .i64 a1_1,.int .i64 a1_2]] w fun e w'=>e = .returned (.bool r)∧Below w.heap.size w w':=by
 have hu165:=Tryz.underlying165
 have HB:=aM (Below.refl w.heap.size w)
 unfold Xa2.f at H
 go_enter Tryz.func220,Tryz.ntmps220
 go_wp2_with (first | (refine boxE 2 #[.int .i64 a0_0,.int .i64 a0_1,.int .i64 a0_2] 165 ?_;intro gbz1 hg wz1 hbox hb;have BKz1:=aM (hbox);have GWz1:=aG hg HB;replace HB:=aS HB hb;clear hb hbox hg) | (refine boxE 3 #[.int .i64 a1_0,.int .i64 a1_1,.int .i64 a1_2] 165 ?_;intro gbz2 hg wz2 hbox hb;have BKz2:=aM (hbox);have GWz2:=aG hg HB;have NBz1:=aL hg BKz1;have NBz2:=aR hg BKz1;replace BKz1:=aB BKz1 hb;replace HB:=aS HB hb;clear hb hbox hg;have hnbz1:=nB NBz1 NBz2;have hczz1:=cZ3 BKz1.out;have hczz4:=cZ3 BKz2.out;refine Stop.out ?_))
 refine⟨?_⟩
 revert H;refine eN ?_ ?_<;>intro c3b0 c3b1 H
 ·obtain rfl:=sI H
  exact fS
 revert H;refine eN ?_ ?_<;>intro c4b0 c4b1 H
 ·obtain rfl:=sI H
  exact fS
 revert H;refine eN ?_ ?_<;>intro c5b0 c5b1 H
 ·obtain rfl:=sI H
  exact fS
 exact fR
def Xbb.f (a0_0:Int) (a0_1:Int) (a1_0:Int) (a1_1:Int):Option (Bool):=if a0_0=a1_0 then (if a0_1=a1_1 then (some true) else (some false)) else (some false)
theorem Xbb.calls (a0_0:Int) (a0_1:Int) (a1_0:Int) (a1_1:Int) (r:Bool) (w:World) (H:Xbb.f a0_0 a0_1 a1_0 a1_1=some r) :
  Calls Tryz.prog 214 #[.agg #[.int .i64 a0_0,.int .i64 a0_1],.agg #[.int .i64 a1_0,.int .i64 a1_1]] w fun e w'=>e = .returned (.bool r)∧Below w.heap.size w w':=by
 have hu172:=Tryz.underlying172
 have HB:=aM (Below.refl w.heap.size w)
 unfold Xbb.f at H
 go_enter Tryz.func214,Tryz.ntmps214
 go_wp2_with (first | (refine boxE 2 #[.int .i64 a0_0,.int .i64 a0_1] 172 ?_;intro gbz1 hg wz1 hbox hb;have BKz1:=aM (hbox);have GWz1:=aG hg HB;replace HB:=aS HB hb;clear hb hbox hg) | (refine boxE 3 #[.int .i64 a1_0,.int .i64 a1_1] 172 ?_;intro gbz2 hg wz2 hbox hb;have BKz2:=aM (hbox);have GWz2:=aG hg HB;have NBz1:=aL hg BKz1;have NBz2:=aR hg BKz1;replace BKz1:=aB BKz1 hb;replace HB:=aS HB hb;clear hb hbox hg;have hnbz1:=nB NBz1 NBz2;have hczz1:=cZ2 BKz1.out;have hczz3:=cZ2 BKz2.out;refine Stop.out ?_))
 refine⟨?_⟩
 revert H;refine eN ?_ ?_<;>intro c3b0 c3b1 H
 ·obtain rfl:=sI H
  exact fS
 revert H;refine eN ?_ ?_<;>intro c4b0 c4b1 H
 ·obtain rfl:=sI H
  exact fS
 exact fR
def Xbc.f (a0_0:Int) (a0_1:Int) (a0_2:Int) (a0_3:Int) (a1_0:Int) (a1_1:Int) (a1_2:Int) (a1_3:Int):Option (Bool):=if a0_0=a1_0 then (if a0_1=a1_1 then (if a0_2=a1_2 then (if a0_3=a1_3 then (some true) else (some false)) else (some false)) else (some false)) else (some false)
theorem Xbc.calls (a0_0:Int) (a0_1:Int) (a0_2:Int) (a0_3:Int) (a1_0:Int) (a1_1:Int) (a1_2:Int) (a1_3:Int) (r:Bool) (w:World) (H:Xbc.f a0_0 a0_1 a0_2 a0_3 a1_0 a1_1 a1_2 a1_3=some r) :
  Calls Tryz.prog 215 #[.agg #[.int .i64 a0_0,.int .i64 a0_1,.int .i64 a0_2,.int .i64 a0_3],.agg #[.int .i64 a1_0,.int .i64 a1_1,.int .i64 a1_2,.int .i64 a1_3]] w fun e w'=>e = .returned (.bool r)∧Below w.heap.size w w':=by
 have hu174:=Tryz.underlying174
 have HB:=aM (Below.refl w.heap.size w)
 unfold Xbc.f at H
 go_enter Tryz.func215,Tryz.ntmps215
 go_wp2_with (first | (refine boxE 2 #[.int .i64 a0_0,.int .i64 a0_1,.int .i64 a0_2,.int .i64 a0_3] 174 ?_;intro gbz1 hg wz1 hbox hb;have BKz1:=aM (hbox);have GWz1:=aG hg HB;replace HB:=aS HB hb;clear hb hbox hg) | (refine boxE 3 #[.int .i64 a1_0,.int .i64 a1_1,.int .i64 a1_2,.int .i64 a1_3] 174 ?_;intro gbz2 hg wz2 hbox hb;have BKz2:=aM (hbox);have GWz2:=aG hg HB;have NBz1:=aL hg BKz1;have NBz2:=aR hg BKz1;replace BKz1:=aB BKz1 hb;replace HB:=aS HB hb;clear hb hbox hg;have hnbz1:=nB NBz1 NBz2;have hczz1:=cZ4 BKz1.out;have hczz5:=cZ4 BKz2.out;refine Stop.out ?_))
 refine⟨?_⟩
 revert H;refine eN ?_ ?_<;>intro c3b0 c3b1 H
 ·obtain rfl:=sI H
  exact fS
 revert H;refine eN ?_ ?_<;>intro c4b0 c4b1 H
 ·obtain rfl:=sI H
  exact fS
 revert H;refine eN ?_ ?_<;>intro c5b0 c5b1 H
 ·obtain rfl:=sI H
  exact fS
 revert H;refine eN ?_ ?_<;>intro c6b0 c6b1 H
 ·obtain rfl:=sI H
  exact fS
 exact fR
end Go.Proofs.YtmljebgideecjaaGreat.P2
