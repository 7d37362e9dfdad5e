/- A part of the proof of the law FnExactMachineNew: texts of this seat, merged (words, printed functions of the program, plain lemmas). Conditions: none of its own. -/
import Derived.Test.YtmljebgideecjaaGreatP2kFnExactMachineNew10
import Derived.Test.YtmljebgideecjaaGreatP2kFnExactMachineNew11
import Derived.Test.YtmljebgideecjaaGreatP2kFnExactMachineNew12
set_option linter.unusedSimpArgs false
set_option linter.unusedVariables false
set_option maxHeartbeats 8000000
set_option maxRecDepth 100000
namespace Go.Proofs.YtmljebgideecjaaGreat.P2
open Go.Proofs.YtmljebgideecjaaGreatZ Go.RowKit Go.Proofs.YtmljebgideecjaaGreatW.PrintWords Go.Proofs.YtmljebgideecjaaGreatW.PrintLast Go.Proofs.YtmljebgideecjaaGreatW.PrintMore
attribute [local go_sem] max2_int min2_int max_two min_two max_three min_three max_four min_four   -- for this text's walks alone
def Xaw.f (a0_0:Int) (a0_1:Int) (a0_2:Int) (a0_3:Int) (a1:Int):Option (Bool):=(Xd.f a0_0 0 (wrap64 (a1 - 1))).bind fun t102=>(if t102=true then ((Xd.f a0_1 1 1000000).bind fun t103=>(if t103=true then ((Xd.f a0_2 0 20).bind fun t104=>(if t104=true then ((Xd.f a0_3 0 20).bind fun t105=>(some (!t105))) else (some true))) else (some true))) else (some true))
theorem Xaw.calls (a0_0:Int) (a0_1:Int) (a0_2:Int) (a0_3:Int) (gc1:Nat) (a1:Int) (r:Bool) (w:World) (hbc1:w.heap[gc1]? = some (.cells #[.int .i64 a1] 3 (0,0))) (H:Xaw.f a0_0 a0_1 a0_2 a0_3 a1=some r) :
  Calls Tryz.prog 185 #[.agg #[.int .i64 a0_0,.int .i64 a0_1,.int .i64 a0_2,.int .i64 a0_3],.pointer (some ⟨gc1,0,none⟩)] w fun e w'=>e = .returned (.bool r)∧Below w.heap.size w w':=by
 have hu174:=Tryz.underlying174
 have BKz1:=aM hbc1
 clear hbc1
 have HB:=aM (Below.refl w.heap.size w)
 unfold Xaw.f at H
 replace H:=bE H;obtain⟨tz1,Az1,H⟩:=H
 cases tz1
 case false =>
  rw[if_neg nft] at H
  obtain rfl:=sI H
  go_enter Tryz.func185,Tryz.ntmps185
  go_wp2_with (first | (refine boxE 2 #[.int .i64 a0_0,.int .i64 a0_1,.int .i64 a0_2,.int .i64 a0_3] 174 ?_;intro gbz1 hg wz4 hbox hb;have BKz2:=aM (hbox);have GWz1:=aG hg HB;have GEz1:=aG hg HB;have NBz1:=aL hg BKz1;have NBz2:=aR hg BKz1;replace BKz1:=aB BKz1 hb;replace HB:=aS HB hb;clear hb hbox hg;have hnbz4:=nB NBz2 NBz1;have hczz16:=cZ4 BKz2.out;have hczz20:=cZ1 BKz1.out) | (refine gD 102 8 Tryz.func102 (Xd.calls a0_0 0 (wrap64 (a1 - 1)) false _ Az1.out) ?_;intro nd))
  go_ret
  exact⟨rE,(hX HB.out)⟩
 rw[if_pos rfl] at H
 replace H:=bE H;obtain⟨tz2,Az2,H⟩:=H
 cases tz2
 case false =>
  rw[if_neg nft] at H
  obtain rfl:=sI H
  go_enter Tryz.func185,Tryz.ntmps185
  go_wp2_with (first | (refine boxE 2 #[.int .i64 a0_0,.int .i64 a0_1,.int .i64 a0_2,.int .i64 a0_3] 174 ?_;intro gbz1 hg wz3 hbox hb;have BKz2:=aM (hbox);have GWz1:=aG hg HB;have GEz1:=aG hg HB;have NBz1:=aL hg BKz1;have NBz2:=aR hg BKz1;replace BKz1:=aB BKz1 hb;replace HB:=aS HB hb;clear hb hbox hg;have hnbz3:=nB NBz2 NBz1;have hczz11:=cZ4 BKz2.out;have hczz15:=cZ1 BKz1.out) | (refine gD 102 8 Tryz.func102 (Xd.calls a0_0 0 (wrap64 (a1 - 1)) true _ Az1.out) ?_;intro nd) | (go_at_call 102;(with_reducible refine(Xd.calls a0_1 1 1000000 false _ Az2.out).mono ?_);rintro e w' ⟨rfl,⟨nd,rfl⟩⟩))
  go_ret
  exact⟨rE,(hX HB.out)⟩
 rw[if_pos rfl] at H
 replace H:=bE H;obtain⟨tz3,Az3,H⟩:=H
 cases tz3
 case false =>
  rw[if_neg nft] at H
  obtain rfl:=sI H
  go_enter Tryz.func185,Tryz.ntmps185
  go_wp2_with (first | (refine boxE 2 #[.int .i64 a0_0,.int .i64 a0_1,.int .i64 a0_2,.int .i64 a0_3] 174 ?_;intro gbz1 hg wz2 hbox hb;have BKz2:=aM (hbox);have GWz1:=aG hg HB;have GEz1:=aG hg HB;have NBz1:=aL hg BKz1;have NBz2:=aR hg BKz1;replace BKz1:=aB BKz1 hb;replace HB:=aS HB hb;clear hb hbox hg;have hnbz2:=nB NBz2 NBz1;have hczz6:=cZ4 BKz2.out;have hczz10:=cZ1 BKz1.out) | (refine gD 102 8 Tryz.func102 (Xd.calls a0_0 0 (wrap64 (a1 - 1)) true _ Az1.out) ?_;intro nd) | (go_at_call 102;(with_reducible refine(Xd.calls a0_1 1 1000000 true _ Az2.out).mono ?_);rintro e w' ⟨rfl,⟨nd,rfl⟩⟩) | (go_at_call 102;(with_reducible refine(Xd.calls a0_2 0 20 false _ Az3.out).mono ?_);rintro e w' ⟨rfl,⟨nd,rfl⟩⟩))
  go_ret
  exact⟨rE,(hX HB.out)⟩
 rw[if_pos rfl] at H
 replace H:=bE H;obtain⟨tz4,Az4,H⟩:=H
 obtain rfl:=sI H
 go_enter Tryz.func185,Tryz.ntmps185
 go_wp2_with (first | (refine boxE 2 #[.int .i64 a0_0,.int .i64 a0_1,.int .i64 a0_2,.int .i64 a0_3] 174 ?_;intro gbz1 hg wz1 hbox hb;have BKz2:=aM (hbox);have GWz1:=aG hg HB;have GEz1:=aG hg HB;have NBz1:=aL hg BKz1;have NBz2:=aR hg BKz1;replace BKz1:=aB BKz1 hb;replace HB:=aS HB hb;clear hb hbox hg;have hnbz1:=nB NBz2 NBz1;have hczz1:=cZ4 BKz2.out;have hczz5:=cZ1 BKz1.out) | (refine gD 102 8 Tryz.func102 (Xd.calls a0_0 0 (wrap64 (a1 - 1)) true _ Az1.out) ?_;intro nd) | (go_at_call 102;(with_reducible refine(Xd.calls a0_1 1 1000000 true _ Az2.out).mono ?_);rintro e w' ⟨rfl,⟨nd,rfl⟩⟩) | (go_at_call 102;(with_reducible refine(Xd.calls a0_2 0 20 true _ Az3.out).mono ?_);rintro e w' ⟨rfl,⟨nd,rfl⟩⟩) | (go_at_call 102;(with_reducible refine(Xd.calls a0_3 0 20 tz4 _ Az4.out).mono ?_);rintro e w' ⟨rfl,⟨nd,rfl⟩⟩))
 go_ret
 exact⟨rE,(hX HB.out)⟩
def XaI.f (l0:List (S69)):Option ((List (S69)) × Int × Bool × (List (S172)) × (List (S174))):=(Xbc.f l0).bind fun t102=>(some (t102,0,false,([]:List (S172)),([]:List (S174))))
theorem XaI.calls (A0:Option Addr) (c0:Nat) (l0:List (S69)) (r1:List (S69)) (r2:Int) (r3:Bool) (r4:List (S172)) (r5:List (S174)) (w:World) (h0:Rw k69 w A0 c0 l0) (h:XaI.f l0=some (r1,r2,r3,r4,r5)) :
  Calls Tryz.prog 69 #[.slice A0 l0.length c0] w fun e w'=>∃ v0_ v3_ v4_:Value,e = .returned (.agg #[v0_,.int .i64 r2,.bool r3,v3_,v4_])∧Kd.R k69 69 w' w.heap.size (fun _=>True) v0_ r1∧Kd.R k172 172 w' w.heap.size (fun _=>True) v3_ r4∧Kd.R k174 174 w' w.heap.size (fun _=>True) v4_ r5∧Below w.heap.size w w':=by
 have hu97:=Tryz.underlying97
 obtain⟨HR0,HC0⟩:=h0
 have HB:=aM (Below.refl w.heap.size w)
 have H:=h
 unfold XaI.f at H
 clear h
 replace H:=bE H;obtain⟨t102,A2,H⟩:=H
 simp only[Option.some.injEq,Prod.mk.injEq] at H
 obtain⟨rfl,rfl,rfl,rfl,rfl⟩:=H
 go_enter Tryz.func69,Tryz.ntmps69
 go_wp2_with (first | (refine boxE 2 #[.slice none 0 0,.int .i64 0,.bool false,.slice none 0 0,.slice none 0 0] 97 ?_;intro gbz1 hg wz1 hbox hb;have BKz1:=aM (hbox);have GWz1:=aG hg HB;replace HB:=aS HB hb;clear hb hbox hg) | (refine goesM 127 4 Tryz.func127 #[.slice A0 l0.length c0] ?_;refine(Xbc.calls _ _ _ _ _ (cC HR0.out HB.out) HC0.out A2.out).mono ?_;rintro e wz2 ⟨vz1,rfl,hoz1,hb⟩;refine⟨_,rfl,?_⟩;have HOz1:=aM (Kd.R_lower hoz1 (below_size (hX HB.out)));replace BKz1:=aB BKz1 hb;replace HB:=aS HB hb;clear hb hoz1;obtain⟨Aoz1,coz1,eoz1⟩:=Kd.R_slice HOz1.out;subst eoz1;have hczz1:=cZ5 BKz1.out))
 refine bodyPost_ret (results_cell_row rfl _ _ gbz1 97 #[.slice Aoz1 t102.length coz1,.int .i64 0,.bool false,.slice none 0 0,.slice none 0 0] (0,0) _ rfl (bP BKz1.out) Tryz.underlying97 rfl (by kernel_rfl)) rfl ?_
 exact⟨_,(Value.slice none 0 0),(Value.slice none 0 0),rE,(Kd.R_mono (rF HOz1.out BKz1.out) (fun _ hk=>trivial)),(by first | exact Kd.R_nil _ _ _ _ _ | exact Kd.S_nil _ _ _ _ _ | exact Kd.V_nil _ _ _ _ _ | exact Kd.N_nil _ _ _ _ _ | exact Kd.Q_nil _ _ _ _ _),(by first | exact Kd.R_nil _ _ _ _ _ | exact Kd.S_nil _ _ _ _ _ | exact Kd.V_nil _ _ _ _ _ | exact Kd.N_nil _ _ _ _ _ | exact Kd.Q_nil _ _ _ _ _),(hX HB.out)⟩
def Xas.f (k:Nat) (l0_0:List Int) (a0_1:Int) (a1:Int):Option (Int × List Int):=(Xy.f k l0_0 a1).bind fun bt102=>(some (bt102.1,bt102.2))
theorem Xas.calls (k:Nat) (P0_0_:Nat→Prop) (u9000_:Value) (l0_0:List Int) (a0_1:Int) (a1:Int) (r1:Int) (r2:List Int) (w0 w:World) (hB:Below w0.heap.size w0 w) (ho0_0:Kd.R (Kd.int .i64) 3 w w0.heap.size P0_0_ u9000_ l0_0) (H:Xas.f k l0_0 a0_1 a1=some (r1,r2)) :
  Calls Tryz.prog 25 #[.agg #[u9000_,.int .i64 a0_1],.int .i64 a1] w fun e w'=>e = .returned (.int .i64 r1)∧Kd.R (Kd.int .i64) 3 w' w0.heap.size (fun k_=>(P0_0_ k_ ∨ w.heap.size≤k_)) u9000_ r2∧Below w0.heap.size w0 w'∧Kept w w' (fun k_=>P0_0_ k_):=by
 have hu41:=Tryz.underlying41
 have HO0_0:=aM (show Kd.R (Kd.int .i64) 3 w w0.heap.size (fun k_=>(P0_0_ k_ ∨ w.heap.size≤k_)) u9000_ l0_0 from Kd.R_mono ho0_0 (fun k_ hk=>(.inl hk)))
 have HK:=aM (Kept.refl w (fun k_=>P0_0_ k_))
 have HW0:=aM hB.size
 have HB:=aM hB
 clear hB
 unfold Xas.f at H
 replace H:=bE H;obtain⟨⟨t102,t103⟩,A3,H⟩:=H
 try dsimp only at H
 simp only[Option.some.injEq,Prod.mk.injEq] at H
 obtain⟨rfl,rfl⟩:=H
 obtain⟨Aoz1,coz1,eoz1⟩:=Kd.R_slice HO0_0.out
 subst eoz1
 go_enter Tryz.func25,Tryz.ntmps25
 go_wp2_with (first | (refine boxE 2 #[.slice Aoz1 l0_0.length coz1,.int .i64 a0_1] 41 ?_;intro gbz1 hg wz1 hbox hb;have BKz1:=aM (hbox);have GWz1:=aM ((by rw[hg];exact(by first | exact HK.out.1 | exact(show Kept w _ (fun k_=>P0_0_ k_) from by repeat (first | (with_reducible first | exact HK.out | apply Kept.alloc | apply Kept.drewN | apply Kept.drew) | exact HK.out)).1):w.heap.size≤gbz1));have GEz1:=aG hg HB;replace HO0_0:=aQ HO0_0 hb;replace HK:=aM (Kept.below (S:=(fun k_=>P0_0_ k_)) (by repeat (first | (with_reducible first | exact HK.out | apply Kept.alloc | apply Kept.drewN | apply Kept.drew) | exact HK.out)) hb);replace HB:=aS HB hb;clear hb hbox hg;have hczz1:=cZ2 BKz1.out) | (refine goesM 71 8 Tryz.func71 #[.slice Aoz1 l0_0.length coz1,.int .i64 a1] ?_;refine(Xy.calls k (fun k_=>some k_=(.slice Aoz1 l0_0.length coz1:Value).ownBlock) (.slice Aoz1 l0_0.length coz1) l0_0 a1 t102 t103 w0 _ (by repeat (first | (with_reducible first | exact HB.out | apply below_alloc | apply pw_below_drewN | apply below_drew1 | refine below_set ?_ GEz1.out) | exact HB.out)) (by exact Kd.R_tight rfl HO0_0.out) A3.out).mono ?_;rintro e wz2 ⟨rfl,hyz1,hb,hkp⟩;refine⟨_,rfl,?_⟩;replace BKz1:=aM (blk_kept (bX BKz1.out) hkp (fun hs_=>(fun e_=>(Kd.R_ne HO0_0.out BKz1.out (by decide)) e_) hs_));replace HK:=aM (Kept.then_ (S:=(fun k_=>P0_0_ k_)) (by repeat (first | (with_reducible first | exact HK.out | apply Kept.alloc | apply Kept.drewN | apply Kept.drew | refine Kept.setCell ?_ (.inr GWz1.out) _) | exact HK.out)) hkp (fun k_ hs_=>(fun e_=>(HO0_0.out.1 k_ e_.symm)) hs_));replace HO0_0:=aM (Kd.R_reok rfl hyz1 (fun k_ e_=>HO0_0.out.1 k_ e_));replace HB:=aM (hb);clear hb hkp hyz1))
 go_ret
 exact⟨rE,(rX HO0_0.out),(hX HB.out),by repeat (first | (with_reducible first | exact HK.out | apply Kept.alloc | apply Kept.drewN | apply Kept.drew | refine Kept.setCell ?_ (.inr GWz1.out) _) | exact HK.out)⟩
def X9.l0:Nat→List (List S69)→Int→Int→Option (Int × List (List S69))
 | 0,_,_,_=>none
 | k+1,x0,x1,x5=>if x5<(x0.length:Int) then (if 0≤x5 then ((X8.f k (rd_L22 x0 x5) x1).bind fun t1=>(X9.l0 k (x0.set (x5:Int).toNat t1.2) t1.1 (wrap64 (x5+1)))) else (none)) else (some (x1,x0))
def X9.f (k:Nat) (l0:List (List S69)) (a1:Int):Option (Int × List (List S69)):=X9.l0 k l0 a1 0
theorem X9.calls (k:Nat) (P0_:Nat→Prop) (u9000_:Value) (l0:List (List S69)) (a1:Int) (r1:Int) (r2:List (List S69)) (w0 w:World) (hB:Below w0.heap.size w0 w) (ho0:Kd.S (Kd.slice 69 k69) 93 w w0.heap.size P0_ u9000_ l0) (h:X9.f k l0 a1=some (r1,r2)) :
  Calls Tryz.prog 26 #[u9000_,.int .i64 a1] w fun e w'=>e = .returned (.int .i64 r1)∧Kd.S (Kd.slice 69 k69) 93 w' w0.heap.size P0_ u9000_ r2∧Below w0.heap.size w0 w'∧Kept w w' (fun k_=>P0_ k_):=by
 have HO0:=aM ho0
 have HK:=aM (Kept.refl w (fun k_=>P0_ k_))
 have HB:=aM hB
 clear hB ho0
 have H':=aM (show X9.l0 k l0 a1 0=some (r1,r2) from h)
 clear h
 go_enter Tryz.func26,Tryz.ntmps26
 go_wp2
 go_loopg [1,5] k (fun kq v1 v5 w'=>∃ (x0:List (List S69)) (x1:Int) (x5:Int),v1 = .int .i64 x1∧v5 = .int .i64 x5∧Aside0 (X9.l0 kq x0 x1 x5=some (r1,r2))∧Aside0 (kq≤k)∧Aside0 (Kd.S (Kd.slice 69 k69) 93 w' w0.heap.size P0_ u9000_ x0)∧Aside0 (Kept w w' (fun k_=>P0_ k_))∧Aside0 (Below w0.heap.size w0 w'))
 case atStart=>exact⟨l0,a1,0,(by first | rfl | (simp;done)),(by first | rfl | (simp;done)),H',⟨Nat.le_refl _⟩,HO0,HK,HB⟩
 case round =>
  clear H'
  try clear p2
  obtain⟨x0,x1,x5,rfl,rfl,HA,HK1,HO,HK,HB⟩:=hrel
  cases gk with
  | zero=>exact absurd HA.out (by simp[X9.l0])
  | succ k1 =>
   have H:=HA.out
   clear HA
   simp only[X9.l0] at H
   by_cases c3:x5<(x0.length:Int)
   ·rw[if_pos c3] at H
    have hq0:=aM c3
    have c3b0:decide (x5<(x0.length:Int))=true:=decide_eq_true c3
    by_cases c4:0≤x5
    ·rw[if_pos c4] at H
     have hp0:=aM c4
     have c4b0:decide (0≤x5)=true:=decide_eq_true c4
     replace H:=bE H;obtain⟨t1,At1,H⟩:=H
     have H':=aM H
     clear H
     obtain⟨go,co,eo,gb,gl,cl,HG⟩:=Kd.S_form HO.out (by omega)
     subst eo
     clear gb gl HG
     obtain⟨oki,ce,hcl,hM,hcc,hfr,hoki,hH⟩:=Kd.S_elem HO.out [] x5 c4 c3
     obtain⟨vr,rfl,hL⟩:=hM
     have hok:=aM hoki
     have HH:=aM hH
     have HL:=aM (show Kd.R k69 69 wr w0.heap.size oki vr (rd_L22 x0 x5) from hL)
     have hx0:wr.cell? ⟨go,x5.toNat,none⟩=some vr:=by have:=(Deep.H_facts HH.out hp0.out hq0.out).1 0 _ rfl;simpa [Kd.slice] using this
     clear hcl hcc hfr hoki hH hL
     clear HO
     replace c3:=eq_true c3
     replace c4:=eq_true c4
     go_wp2_with ((with_reducible refine gate_callee (f:=72) rfl ?_);refine goesL_ (some 17) rfl rfl Tryz.func72 (by kernel_rfl) rfl #[vr,.int .i64 x1] rfl (by (try simp only[List.map_toArray,List.map_cons,List.map_nil]);first | done | rfl) ?_;(with_reducible refine(X8.calls k1 (fun k_=>some k_=(vr:Value).ownBlock) vr (rd_L22 x0 x5) x1 t1.1 t1.2 w0 _ HB.out (Kd.R_tight rfl HL.out) At1.out).mono ?_);rintro e wz ⟨rfl,hy0,hb,hkp⟩;refine⟨_,rfl,?_⟩;replace HH:=aM (Kd.H_kept HH.out hkp (fun k_ _ hn_ e_=>hn_ (HL.out.1 k_ e_.symm)));replace HK:=aM (Kept.then_ (S:=(fun k_=>P0_ k_)) HK.out hkp (fun k_ e_ => .inl (hok.out k_ (HL.out.1 k_ e_.symm)).1));replace HL:=aM (Kd.R_reok rfl hy0 (fun k_ e_=>HL.out.1 k_ e_));replace HB:=aM hb;clear hkp hy0 hb)
     go_roundg k1
     case measure=>have:=HK1.out;omega
     case rel=>exact⟨(x0.set (x5:Int).toNat t1.2),t1.1,(wrap64 (x5+1)),(by first | rfl | (simp;done)),(by first | rfl | (simp;done)),H',⟨by have:=HK1.out;omega⟩,⟨Kd.H_back HH.out (⟨vr,rfl,HL.out⟩:(Kd.slice 69 k69).M _ _ _ _ _) (fun _ hk_=>hk_)⟩,HK,HB⟩
    ·rw[if_neg c4] at H
     exact absurd H (by simp)
   ·rw[if_neg c3] at H
    have c3b0:decide (x5<(x0.length:Int))=false:=decide_eq_false c3
    clear c3
    simp only[Option.some.injEq,Prod.mk.injEq] at H
    obtain⟨rfl,rfl⟩:=H
    obtain⟨Ao,co,eo⟩:=Kd.S_slice HO.out
    subst eo
    go_wp2
    go_ret
    exact⟨rE,HO.out,HB.out,HK.out⟩
def XaP.f (k:Nat) (l0_0:List Int) (a0_1:Int) (a1:Int):Option (Int):=(XC.f k l0_0 a1).bind fun t102=>(if t102<0 then (some (-1)) else (some t102))
theorem XaP.calls (k:Nat) (A0_0:Option Addr) (c0_0:Nat) (l0_0:List Int) (a0_1:Int) (a1:Int) (r:Int) (w:World) (h0_0:Rw (Kd.int .i64) w A0_0 c0_0 l0_0) (H:XaP.f k l0_0 a0_1 a1=some r) :
  Calls Tryz.prog 31 #[.agg #[.slice A0_0 l0_0.length c0_0,.int .i64 a0_1],.int .i64 a1] w fun e w'=>e = .returned (.int .i64 r)∧Below w.heap.size w w':=by
 have hu41:=Tryz.underlying41
 obtain⟨HR0_0,HC0_0⟩:=h0_0
 have HB:=aM (Below.refl w.heap.size w)
 unfold XaP.f at H
 replace H:=bE H;obtain⟨t102,A3,H⟩:=H
 go_enter Tryz.func31,Tryz.ntmps31
 go_wp2_with (first | (refine boxE 2 #[.slice A0_0 l0_0.length c0_0,.int .i64 a0_1] 41 ?_;intro gbz1 hg wz1 hbox hb;have BKz1:=aM (hbox);have GWz1:=aG hg HB;replace HB:=aS HB hb;clear hb hbox hg;have hczz1:=cZ2 BKz1.out) | (refine gD 79 8 Tryz.func79 (XC.calls _ _ _ _ _ _ _ (rW HR0_0 HB HC0_0) A3.out) ?_;intro nd;refine Stop.out ?_))
 refine⟨?_⟩
 revert H;refine iP ?_ ?_<;>intro c4b0 H
 ·obtain rfl:=sI H
  exact fS
 exact fR
def X2.l0:Nat→List (S162)→Int→Int→Option (Int)
 | 0,_,_,_=>none
 | k+1,x0,x1,x5=>if x5<(x0.length:Int) then (if 0≤x5 then (if ((rd_T162 x0 x5).f0)=x1 then (if ((rd_T162 x0 x5).f1)=(wrap64 (x1+1)) then ((XI.f k ((rd_T162 x0 x5).f2) (wrap64 ((wrap64 (x1+1))+1))).bind fun t104=>(if t104<0 then (some (-1)) else (if ((rd_T162 x0 x5).f3.f0)=t104 then ((XC.f k ((rd_T162 x0 x5).f3.f1) (wrap64 (t104+1))).bind fun t107=>(if t107<0 then (some (-1)) else (X2.l0 k x0 t107 (wrap64 (x5+1))))) else (some (-1))))) else (some (-1))) else (some (-1))) else (none)) else (some x1)
def X2.f (k:Nat) (l0:List (S162)) (a1:Int):Option (Int):=X2.l0 k l0 a1 0
theorem X2.calls (k:Nat) (A0:Option Addr) (c0:Nat) (l0:List (S162)) (a1:Int) (r:Int) (w:World) (h0:Rw k162 w A0 c0 l0) (H:X2.f k l0 a1=some r) :
  Calls Tryz.prog 134 #[.slice A0 l0.length c0,.int .i64 a1] w fun e w'=>e = .returned (.int .i64 r)∧Drawn0 w w':=by
 obtain⟨HR0,HC0⟩:=h0
 unfold X2.f at H
 have H':=aM H
 clear H
 go_enter Tryz.func134,Tryz.ntmps134
 go_wp2
 go_loopg [1,5] k (fun kq v1 v5 w'=>∃ (x1_1:Int) (x5_1:Int),v1 = .int .i64 x1_1∧v5 = .int .i64 x5_1∧Aside0 (X2.l0 kq l0 x1_1 x5_1=some r)∧Aside0 (kq≤k)∧Drawn0 w w')
 case atStart=>exact⟨(a1),(0),rS,rS,H',⟨Nat.le_refl _⟩,dX⟩
 case round =>
  clear H'
  obtain⟨x1_1,x5_1,rfl,rfl,HA,HKy1,⟨my1,rfl⟩⟩:=hrel
  cases gk with
  | zero=>exact absurd HA.out (by simp[X2.l0])
  | succ k1 =>
   have H:=HA.out
   clear HA
   simp only[X2.l0] at H
   revert H;refine iN ?_ ?_<;>intro c3b0 H
   ·obtain rfl:=sI H
    go_wp2
    go_ret
    exact⟨by first | rfl | (simp;done) | (simp[*];done),dX⟩
   replace H:=ifQ H;obtain⟨c4b0,H⟩:=H
   revert H;refine eN ?_ ?_<;>intro c5b0 c5b1 H
   ·obtain rfl:=sI H
    have px1:0≤(x5_1:Int):=odA
    have qx1:x5_1<(l0.length:Int):=odA
    obtain⟨adx1,Ax1,cx1,Ax2,cx2,ex1,hxx1,hxx2,hxx3,hxx4,hxx5,hlx1,hix1,hlx2,hix2⟩:=at_T162 HR0.out x5_1 px1 qx1
    cases ex1
    have HRx1:=aM hix1
    have HCx1:=aM hlx1
    clear hix1 hlx1
    have HRx2:=aM hix2
    have HCx2:=aM hlx2
    clear hix2 hlx2
    replace px1:=eq_true px1
    replace qx1:=eq_true qx1
    go_wp2
    go_ret
    exact⟨by first | rfl | (simp;done) | (simp[*];done),dX⟩
   revert H;refine eN ?_ ?_<;>intro c6b0 c6b1 H
   ·obtain rfl:=sI H
    have px1:0≤(x5_1:Int):=odA
    have qx1:x5_1<(l0.length:Int):=odA
    obtain⟨adx1,Ax1,cx1,Ax2,cx2,ex1,hxx1,hxx2,hxx3,hxx4,hxx5,hlx1,hix1,hlx2,hix2⟩:=at_T162 HR0.out x5_1 px1 qx1
    cases ex1
    have HRx1:=aM hix1
    have HCx1:=aM hlx1
    clear hix1 hlx1
    have HRx2:=aM hix2
    have HCx2:=aM hlx2
    clear hix2 hlx2
    replace px1:=eq_true px1
    replace qx1:=eq_true qx1
    have px2:0≤(x5_1:Int):=odA
    have qx2:x5_1<(l0.length:Int):=odA
    obtain⟨adx2,Ax3,cx3,Ax4,cx4,ex2,hxx6,hxx7,hxx8,hxx9,hxx10,hlx3,hix3,hlx4,hix4⟩:=at_T162 HR0.out x5_1 px2 qx2
    obtain rfl:adx1=adx2:=(by injection ex2)
    have HRx3:=aM hix3
    have HCx3:=aM hlx3
    clear hix3 hlx3
    have HRx4:=aM hix4
    have HCx4:=aM hlx4
    clear hix4 hlx4
    replace px2:=eq_true px2
    replace qx2:=eq_true qx2
    have ea_:=Option.some.inj (hxx3.symm.trans hxx8)
    injection ea_ with ea_ en_ ec_
    subst ea_
    subst ec_
    clear en_
    have ea_:=Option.some.inj (hxx5.symm.trans hxx10)
    injection ea_ with ea_ en_ ec_
    subst ea_
    subst ec_
    clear en_
    go_wp2
    go_ret
    exact⟨by first | rfl | (simp;done) | (simp[*];done),dX⟩
   replace H:=bE H;obtain⟨t104,A7,H⟩:=H
   revert H;refine iP ?_ ?_<;>intro c8b0 H
   ·obtain rfl:=sI H
    have px1:0≤(x5_1:Int):=odA
    have qx1:x5_1<(l0.length:Int):=odA
    obtain⟨adx1,Ax1,cx1,Ax2,cx2,ex1,hxx1,hxx2,hxx3,hxx4,hxx5,hlx1,hix1,hlx2,hix2⟩:=at_T162 HR0.out x5_1 px1 qx1
    cases ex1
    have HRx1:=aM hix1
    have HCx1:=aM hlx1
    clear hix1 hlx1
    have HRx2:=aM hix2
    have HCx2:=aM hlx2
    clear hix2 hlx2
    replace px1:=eq_true px1
    replace qx1:=eq_true qx1
    have px2:0≤(x5_1:Int):=odA
    have qx2:x5_1<(l0.length:Int):=odA
    obtain⟨adx2,Ax3,cx3,Ax4,cx4,ex2,hxx6,hxx7,hxx8,hxx9,hxx10,hlx3,hix3,hlx4,hix4⟩:=at_T162 HR0.out x5_1 px2 qx2
    obtain rfl:adx1=adx2:=(by injection ex2)
    have HRx3:=aM hix3
    have HCx3:=aM hlx3
    clear hix3 hlx3
    have HRx4:=aM hix4
    have HCx4:=aM hlx4
    clear hix4 hlx4
    replace px2:=eq_true px2
    replace qx2:=eq_true qx2
    have ea_:=Option.some.inj (hxx3.symm.trans hxx8)
    injection ea_ with ea_ en_ ec_
    subst ea_
    subst ec_
    clear en_
    have ea_:=Option.some.inj (hxx5.symm.trans hxx10)
    injection ea_ with ea_ en_ ec_
    subst ea_
    subst ec_
    clear en_
    have px3:0≤(x5_1:Int):=odA
    have qx3:x5_1<(l0.length:Int):=odA
    obtain⟨adx3,Ax5,cx5,Ax6,cx6,ex3,hxx11,hxx12,hxx13,hxx14,hxx15,hlx5,hix5,hlx6,hix6⟩:=at_T162 HR0.out x5_1 px3 qx3
    obtain rfl:adx1=adx3:=(by injection ex3)
    have HRx5:=aM hix5
    have HCx5:=aM hlx5
    clear hix5 hlx5
    have HRx6:=aM hix6
    have HCx6:=aM hlx6
    clear hix6 hlx6
    replace px3:=eq_true px3
    replace qx3:=eq_true qx3
    have ea_:=Option.some.inj (hxx3.symm.trans hxx13)
    injection ea_ with ea_ en_ ec_
    subst ea_
    subst ec_
    clear en_
    have ea_:=Option.some.inj (hxx5.symm.trans hxx15)
    injection ea_ with ea_ en_ ec_
    subst ea_
    subst ec_
    clear en_
    go_wp2_with (refine gD 197 36 Tryz.func197 (XI.calls _ _ _ _ _ _ _ (rw2 (cX HRx5.out) HCx5.out) A7.out) ?_;intro nd)
    go_ret
    exact⟨by first | rfl | (simp;done) | (simp[*];done),dX⟩
   revert H;refine eN ?_ ?_<;>intro c9b0 c9b1 H
   ·obtain rfl:=sI H
    have px1:0≤(x5_1:Int):=odA
    have qx1:x5_1<(l0.length:Int):=odA
    obtain⟨adx1,Ax1,cx1,Ax2,cx2,ex1,hxx1,hxx2,hxx3,hxx4,hxx5,hlx1,hix1,hlx2,hix2⟩:=at_T162 HR0.out x5_1 px1 qx1
    cases ex1
    have HRx1:=aM hix1
    have HCx1:=aM hlx1
    clear hix1 hlx1
    have HRx2:=aM hix2
    have HCx2:=aM hlx2
    clear hix2 hlx2
    replace px1:=eq_true px1
    replace qx1:=eq_true qx1
    have px2:0≤(x5_1:Int):=odA
    have qx2:x5_1<(l0.length:Int):=odA
    obtain⟨adx2,Ax3,cx3,Ax4,cx4,ex2,hxx6,hxx7,hxx8,hxx9,hxx10,hlx3,hix3,hlx4,hix4⟩:=at_T162 HR0.out x5_1 px2 qx2
    obtain rfl:adx1=adx2:=(by injection ex2)
    have HRx3:=aM hix3
    have HCx3:=aM hlx3
    clear hix3 hlx3
    have HRx4:=aM hix4
    have HCx4:=aM hlx4
    clear hix4 hlx4
    replace px2:=eq_true px2
    replace qx2:=eq_true qx2
    have ea_:=Option.some.inj (hxx3.symm.trans hxx8)
    injection ea_ with ea_ en_ ec_
    subst ea_
    subst ec_
    clear en_
    have ea_:=Option.some.inj (hxx5.symm.trans hxx10)
    injection ea_ with ea_ en_ ec_
    subst ea_
    subst ec_
    clear en_
    have px3:0≤(x5_1:Int):=odA
    have qx3:x5_1<(l0.length:Int):=odA
    obtain⟨adx3,Ax5,cx5,Ax6,cx6,ex3,hxx11,hxx12,hxx13,hxx14,hxx15,hlx5,hix5,hlx6,hix6⟩:=at_T162 HR0.out x5_1 px3 qx3
    obtain rfl:adx1=adx3:=(by injection ex3)
    have HRx5:=aM hix5
    have HCx5:=aM hlx5
    clear hix5 hlx5
    have HRx6:=aM hix6
    have HCx6:=aM hlx6
    clear hix6 hlx6
    replace px3:=eq_true px3
    replace qx3:=eq_true qx3
    have ea_:=Option.some.inj (hxx3.symm.trans hxx13)
    injection ea_ with ea_ en_ ec_
    subst ea_
    subst ec_
    clear en_
    have ea_:=Option.some.inj (hxx5.symm.trans hxx15)
    injection ea_ with ea_ en_ ec_
    subst ea_
    subst ec_
    clear en_
    go_wp2_with (refine gD 197 36 Tryz.func197 (XI.calls _ _ _ _ _ _ _ (rw2 (cX HRx5.out) HCx5.out) A7.out) ?_;intro nd;have px4:0≤(x5_1:Int):=odA;have qx4:x5_1<(l0.length:Int):=odA;obtain⟨adx4,Ax7,cx7,Ax8,cx8,ex4,hxx16,hxx17,hxx18,hxx19,hxx20,hlx7,hix7,hlx8,hix8⟩:=at_T162 HR0.out x5_1 px4 qx4;obtain rfl:adx1=adx4:=(by injection ex4);have HRx7:=aM hix7;have HCx7:=aM hlx7;clear hix7 hlx7;have HRx8:=aM hix8;have HCx8:=aM hlx8;clear hix8 hlx8;replace px4:=eq_true px4;replace qx4:=eq_true qx4;have ea_:=Option.some.inj (hxx3.symm.trans hxx18);injection ea_ with ea_ en_ ec_;subst ea_;subst ec_;clear en_;have ea_:=Option.some.inj (hxx5.symm.trans hxx20);injection ea_ with ea_ en_ ec_;subst ea_;subst ec_;clear en_)
    go_ret
    exact⟨by first | rfl | (simp;done) | (simp[*];done),dX⟩
   replace H:=bE H;obtain⟨t107,A10,H⟩:=H
   have px1:0≤(x5_1:Int):=odA
   have qx1:x5_1<(l0.length:Int):=odA
   obtain⟨adx1,Ax1,cx1,Ax2,cx2,ex1,hxx1,hxx2,hxx3,hxx4,hxx5,hlx1,hix1,hlx2,hix2⟩:=at_T162 HR0.out x5_1 px1 qx1
   cases ex1
   have HRx1:=aM hix1
   have HCx1:=aM hlx1
   clear hix1 hlx1
   have HRx2:=aM hix2
   have HCx2:=aM hlx2
   clear hix2 hlx2
   replace px1:=eq_true px1
   replace qx1:=eq_true qx1
   have px2:0≤(x5_1:Int):=odA
   have qx2:x5_1<(l0.length:Int):=odA
   obtain⟨adx2,Ax3,cx3,Ax4,cx4,ex2,hxx6,hxx7,hxx8,hxx9,hxx10,hlx3,hix3,hlx4,hix4⟩:=at_T162 HR0.out x5_1 px2 qx2
   obtain rfl:adx1=adx2:=(by injection ex2)
   have HRx3:=aM hix3
   have HCx3:=aM hlx3
   clear hix3 hlx3
   have HRx4:=aM hix4
   have HCx4:=aM hlx4
   clear hix4 hlx4
   replace px2:=eq_true px2
   replace qx2:=eq_true qx2
   have ea_:=Option.some.inj (hxx3.symm.trans hxx8)
   injection ea_ with ea_ en_ ec_
   subst ea_
   subst ec_
   clear en_
   have ea_:=Option.some.inj (hxx5.symm.trans hxx10)
   injection ea_ with ea_ en_ ec_
   subst ea_
   subst ec_
   clear en_
   have px3:0≤(x5_1:Int):=odA
   have qx3:x5_1<(l0.length:Int):=odA
   obtain⟨adx3,Ax5,cx5,Ax6,cx6,ex3,hxx11,hxx12,hxx13,hxx14,hxx15,hlx5,hix5,hlx6,hix6⟩:=at_T162 HR0.out x5_1 px3 qx3
   obtain rfl:adx1=adx3:=(by injection ex3)
   have HRx5:=aM hix5
   have HCx5:=aM hlx5
   clear hix5 hlx5
   have HRx6:=aM hix6
   have HCx6:=aM hlx6
   clear hix6 hlx6
   replace px3:=eq_true px3
   replace qx3:=eq_true qx3
   have ea_:=Option.some.inj (hxx3.symm.trans hxx13)
   injection ea_ with ea_ en_ ec_
   subst ea_
   subst ec_
   clear en_
   have ea_:=Option.some.inj (hxx5.symm.trans hxx15)
   injection ea_ with ea_ en_ ec_
   subst ea_
   subst ec_
   clear en_
   go_wp2_with (first | (refine gD 197 36 Tryz.func197 (XI.calls _ _ _ _ _ _ _ (rw2 (cX HRx5.out) HCx5.out) A7.out) ?_;intro nd;have px4:0≤(x5_1:Int):=odA;have qx4:x5_1<(l0.length:Int):=odA;obtain⟨adx4,Ax7,cx7,Ax8,cx8,ex4,hxx16,hxx17,hxx18,hxx19,hxx20,hlx7,hix7,hlx8,hix8⟩:=at_T162 HR0.out x5_1 px4 qx4;obtain rfl:adx1=adx4:=(by injection ex4);have HRx7:=aM hix7;have HCx7:=aM hlx7;clear hix7 hlx7;have HRx8:=aM hix8;have HCx8:=aM hlx8;clear hix8 hlx8;replace px4:=eq_true px4;replace qx4:=eq_true qx4;have ea_:=Option.some.inj (hxx3.symm.trans hxx18);injection ea_ with ea_ en_ ec_;subst ea_;subst ec_;clear en_;have ea_:=Option.some.inj (hxx5.symm.trans hxx20);injection ea_ with ea_ en_ ec_;subst ea_;subst ec_;clear en_;have px5:0≤(x5_1:Int):=odA;have qx5:x5_1<(l0.length:Int):=odA;obtain⟨adx5,Ax9,cx9,Ax10,cx10,ex5,hxx21,hxx22,hxx23,hxx24,hxx25,hlx9,hix9,hlx10,hix10⟩:=at_T162 HR0.out x5_1 px5 qx5;obtain rfl:adx1=adx5:=(by injection ex5);have HRx9:=aM hix9;have HCx9:=aM hlx9;clear hix9 hlx9;have HRx10:=aM hix10;have HCx10:=aM hlx10;clear hix10 hlx10;replace px5:=eq_true px5;replace qx5:=eq_true qx5;have ea_:=Option.some.inj (hxx3.symm.trans hxx23);injection ea_ with ea_ en_ ec_;subst ea_;subst ec_;clear en_;have ea_:=Option.some.inj (hxx5.symm.trans hxx25);injection ea_ with ea_ en_ ec_;subst ea_;subst ec_;clear en_) | (refine gD 79 56 Tryz.func79 (XC.calls _ _ _ _ _ _ _ (rw2 (cX HRx10.out) HCx10.out) A10.out) ?_;intro nd;refine Stop.out ?_))
   refine⟨?_⟩
   revert H;refine iP ?_ ?_<;>intro c11b0 H
   ·obtain rfl:=sI H
    go_wp2
    go_ret
    exact⟨by first | rfl | (simp;done) | (simp[*];done),dX⟩
   have H':=aM H
   clear H
   go_wp2
   go_roundg k1
   case measure=>have:=HKy1.out;omega
   case rel=>exact⟨(t107),(wrap64 (x5_1+1)),rS,rS,H',⟨by have:=HKy1.out;omega⟩,dX⟩
def XL.l0:Nat→List (S97)→Int→Int→Option (Int)
 | 0,_,_,_=>none
 | k+1,x0,x1,x5=>if x5<(x0.length:Int) then (if 0≤x5 then ((XW.f k ((rd_T97 x0 x5).f0) x1).bind fun t102=>(if t102<0 then (some (-1)) else (if ((rd_T97 x0 x5).f1)=t102 then (if (((rd_T97 x0 x5).f2) != ((Int.tmod (wrap64 (t102+1)) 3) == 0))=true then (some (-1)) else ((XS.f k ((rd_T97 x0 x5).f3) (wrap64 ((wrap64 (t102+1))+1))).bind fun t106=>(if t106<0 then (some (-1)) else ((XY.f k ((rd_T97 x0 x5).f4) t106).bind fun t108=>(if t108<0 then (some (-1)) else (XL.l0 k x0 t108 (wrap64 (x5+1)))))))) else (some (-1))))) else (none)) else (some x1)
def XL.f (k:Nat) (l0:List (S97)) (a1:Int):Option (Int):=XL.l0 k l0 a1 0
theorem XL.calls (k:Nat) (A0:Option Addr) (c0:Nat) (l0:List (S97)) (a1:Int) (r:Int) (w:World) (h0:Rw k97 w A0 c0 l0) (H:XL.f k l0 a1=some r) :
  Calls Tryz.prog 77 #[.slice A0 l0.length c0,.int .i64 a1] w fun e w'=>e = .returned (.int .i64 r)∧Drawn0 w w':=by
 obtain⟨HR0,HC0⟩:=h0
 unfold XL.f at H
 have H':=aM H
 clear H
 go_enter Tryz.func77,Tryz.ntmps77
 go_wp2
 go_loopg [1,5] k (fun kq v1 v5 w'=>∃ (x1_1:Int) (x5_1:Int),v1 = .int .i64 x1_1∧v5 = .int .i64 x5_1∧Aside0 (XL.l0 kq l0 x1_1 x5_1=some r)∧Aside0 (kq≤k)∧Drawn0 w w')
 case atStart=>exact⟨(a1),(0),rS,rS,H',⟨Nat.le_refl _⟩,dX⟩
 case round =>
  clear H'
  obtain⟨x1_1,x5_1,rfl,rfl,HA,HKy1,⟨my1,rfl⟩⟩:=hrel
  cases gk with
  | zero=>exact absurd HA.out (by simp[XL.l0])
  | succ k1 =>
   have H:=HA.out
   clear HA
   simp only[XL.l0] at H
   revert H;refine iN ?_ ?_<;>intro c3b0 H
   ·obtain rfl:=sI H
    go_wp2
    go_ret
    exact⟨by first | rfl | (simp;done) | (simp[*];done),dX⟩
   replace H:=ifQ H;obtain⟨c4b0,H⟩:=H
   replace H:=bE H;obtain⟨t102,A5,H⟩:=H
   revert H;refine iP ?_ ?_<;>intro c6b0 H
   ·obtain rfl:=sI H
    have px1:0≤(x5_1:Int):=odA
    have qx1:x5_1<(l0.length:Int):=odA
    obtain⟨adx1,Ax1,cx1,Ax2,cx2,Ax3,cx3,ex1,hxx1,hxx2,hxx3,hxx4,hxx5,hlx1,hix1,hlx2,hix2,hlx3,hix3⟩:=at_T97 HR0.out x5_1 px1 qx1
    cases ex1
    have HRx1:=aM hix1
    have HCx1:=aM hlx1
    clear hix1 hlx1
    have HRx2:=aM hix2
    have HCx2:=aM hlx2
    clear hix2 hlx2
    have HRx3:=aM hix3
    have HCx3:=aM hlx3
    clear hix3 hlx3
    replace px1:=eq_true px1
    replace qx1:=eq_true qx1
    go_wp2_with (refine gD 135 18 Tryz.func135 (XW.calls _ _ _ _ _ _ _ (rw2 (cX HRx1.out) HCx1.out) A5.out) ?_;intro nd)
    go_ret
    exact⟨by first | rfl | (simp;done) | (simp[*];done),dX⟩
   revert H;refine eN ?_ ?_<;>intro c7b0 c7b1 H
   ·obtain rfl:=sI H
    have px1:0≤(x5_1:Int):=odA
    have qx1:x5_1<(l0.length:Int):=odA
    obtain⟨adx1,Ax1,cx1,Ax2,cx2,Ax3,cx3,ex1,hxx1,hxx2,hxx3,hxx4,hxx5,hlx1,hix1,hlx2,hix2,hlx3,hix3⟩:=at_T97 HR0.out x5_1 px1 qx1
    cases ex1
    have HRx1:=aM hix1
    have HCx1:=aM hlx1
    clear hix1 hlx1
    have HRx2:=aM hix2
    have HCx2:=aM hlx2
    clear hix2 hlx2
    have HRx3:=aM hix3
    have HCx3:=aM hlx3
    clear hix3 hlx3
    replace px1:=eq_true px1
    replace qx1:=eq_true qx1
    go_wp2_with (refine gD 135 18 Tryz.func135 (XW.calls _ _ _ _ _ _ _ (rw2 (cX HRx1.out) HCx1.out) A5.out) ?_;intro nd;have px2:0≤(x5_1:Int):=odA;have qx2:x5_1<(l0.length:Int):=odA;obtain⟨adx2,Ax4,cx4,Ax5,cx5,Ax6,cx6,ex2,hxx6,hxx7,hxx8,hxx9,hxx10,hlx4,hix4,hlx5,hix5,hlx6,hix6⟩:=at_T97 HR0.out x5_1 px2 qx2;obtain rfl:adx1=adx2:=(by injection ex2);have HRx4:=aM hix4;have HCx4:=aM hlx4;clear hix4 hlx4;have HRx5:=aM hix5;have HCx5:=aM hlx5;clear hix5 hlx5;have HRx6:=aM hix6;have HCx6:=aM hlx6;clear hix6 hlx6;replace px2:=eq_true px2;replace qx2:=eq_true qx2;have ea_:=Option.some.inj (hxx1.symm.trans hxx6);injection ea_ with ea_ en_ ec_;subst ea_;subst ec_;clear en_;have ea_:=Option.some.inj (hxx4.symm.trans hxx9);injection ea_ with ea_ en_ ec_;subst ea_;subst ec_;clear en_;have ea_:=Option.some.inj (hxx5.symm.trans hxx10);injection ea_ with ea_ en_ ec_;subst ea_;subst ec_;clear en_)
    go_ret
    exact⟨by first | rfl | (simp;done) | (simp[*];done),dX⟩
   by_cases c8:(((rd_T97 l0 x5_1).f2) != ((Int.tmod (wrap64 (t102+1)) 3) == 0))=true
   ·rw[if_pos c8] at H
    have c8b0:(((rd_T97 l0 x5_1).f2) != ((Int.tmod (wrap64 (t102+1)) 3) == 0))=true:=c8
    (try (have c8b1:decide (((rd_T97 l0 x5_1).f2)=((Int.tmod (wrap64 (t102+1)) 3) == 0))=false:=by simpa using c8))
    (try (have c8b2:(((rd_T97 l0 x5_1).f2) == ((Int.tmod (wrap64 (t102+1)) 3) == 0))=false:=by simpa using c8))
    (try (have c8b3:¬ (((rd_T97 l0 x5_1).f2)=((Int.tmod (wrap64 (t102+1)) 3) == 0)):=by simpa using c8))
    clear c8
    obtain rfl:=sI H
    have px1:0≤(x5_1:Int):=odA
    have qx1:x5_1<(l0.length:Int):=odA
    obtain⟨adx1,Ax1,cx1,Ax2,cx2,Ax3,cx3,ex1,hxx1,hxx2,hxx3,hxx4,hxx5,hlx1,hix1,hlx2,hix2,hlx3,hix3⟩:=at_T97 HR0.out x5_1 px1 qx1
    cases ex1
    have HRx1:=aM hix1
    have HCx1:=aM hlx1
    clear hix1 hlx1
    have HRx2:=aM hix2
    have HCx2:=aM hlx2
    clear hix2 hlx2
    have HRx3:=aM hix3
    have HCx3:=aM hlx3
    clear hix3 hlx3
    replace px1:=eq_true px1
    replace qx1:=eq_true qx1
    go_wp2_with (refine gD 135 18 Tryz.func135 (XW.calls _ _ _ _ _ _ _ (rw2 (cX HRx1.out) HCx1.out) A5.out) ?_;intro nd;have px2:0≤(x5_1:Int):=odA;have qx2:x5_1<(l0.length:Int):=odA;obtain⟨adx2,Ax4,cx4,Ax5,cx5,Ax6,cx6,ex2,hxx6,hxx7,hxx8,hxx9,hxx10,hlx4,hix4,hlx5,hix5,hlx6,hix6⟩:=at_T97 HR0.out x5_1 px2 qx2;obtain rfl:adx1=adx2:=(by injection ex2);have HRx4:=aM hix4;have HCx4:=aM hlx4;clear hix4 hlx4;have HRx5:=aM hix5;have HCx5:=aM hlx5;clear hix5 hlx5;have HRx6:=aM hix6;have HCx6:=aM hlx6;clear hix6 hlx6;replace px2:=eq_true px2;replace qx2:=eq_true qx2;have ea_:=Option.some.inj (hxx1.symm.trans hxx6);injection ea_ with ea_ en_ ec_;subst ea_;subst ec_;clear en_;have ea_:=Option.some.inj (hxx4.symm.trans hxx9);injection ea_ with ea_ en_ ec_;subst ea_;subst ec_;clear en_;have ea_:=Option.some.inj (hxx5.symm.trans hxx10);injection ea_ with ea_ en_ ec_;subst ea_;subst ec_;clear en_;have px3:0≤(x5_1:Int):=odA;have qx3:x5_1<(l0.length:Int):=odA;obtain⟨adx3,Ax7,cx7,Ax8,cx8,Ax9,cx9,ex3,hxx11,hxx12,hxx13,hxx14,hxx15,hlx7,hix7,hlx8,hix8,hlx9,hix9⟩:=at_T97 HR0.out x5_1 px3 qx3;obtain rfl:adx1=adx3:=(by injection ex3);have HRx7:=aM hix7;have HCx7:=aM hlx7;clear hix7 hlx7;have HRx8:=aM hix8;have HCx8:=aM hlx8;clear hix8 hlx8;have HRx9:=aM hix9;have HCx9:=aM hlx9;clear hix9 hlx9;replace px3:=eq_true px3;replace qx3:=eq_true qx3;have ea_:=Option.some.inj (hxx1.symm.trans hxx11);injection ea_ with ea_ en_ ec_;subst ea_;subst ec_;clear en_;have ea_:=Option.some.inj (hxx4.symm.trans hxx14);injection ea_ with ea_ en_ ec_;subst ea_;subst ec_;clear en_;have ea_:=Option.some.inj (hxx5.symm.trans hxx15);injection ea_ with ea_ en_ ec_;subst ea_;subst ec_;clear en_)
    go_ret
    exact⟨by first | rfl | (simp;done) | (simp[*];done),dX⟩
   rw[if_neg c8] at H
   have c8b0:(((rd_T97 l0 x5_1).f2) != ((Int.tmod (wrap64 (t102+1)) 3) == 0))=false:=by simpa using c8
   (try (have c8b1:decide (((rd_T97 l0 x5_1).f2)=((Int.tmod (wrap64 (t102+1)) 3) == 0))=true:=by simpa using c8))
   (try (have c8b2:(((rd_T97 l0 x5_1).f2) == ((Int.tmod (wrap64 (t102+1)) 3) == 0))=true:=by simpa using c8))
   clear c8
   replace H:=bE H;obtain⟨t106,A9,H⟩:=H
   have px1:0≤(x5_1:Int):=odA
   have qx1:x5_1<(l0.length:Int):=odA
   obtain⟨adx1,Ax1,cx1,Ax2,cx2,Ax3,cx3,ex1,hxx1,hxx2,hxx3,hxx4,hxx5,hlx1,hix1,hlx2,hix2,hlx3,hix3⟩:=at_T97 HR0.out x5_1 px1 qx1
   cases ex1
   have HRx1:=aM hix1
   have HCx1:=aM hlx1
   clear hix1 hlx1
   have HRx2:=aM hix2
   have HCx2:=aM hlx2
   clear hix2 hlx2
   have HRx3:=aM hix3
   have HCx3:=aM hlx3
   clear hix3 hlx3
   replace px1:=eq_true px1
   replace qx1:=eq_true qx1
   go_wp2_with (refine gD 135 18 Tryz.func135 (XW.calls _ _ _ _ _ _ _ (rw2 (cX HRx1.out) HCx1.out) A5.out) ?_;intro nd;have px2:0≤(x5_1:Int):=odA;have qx2:x5_1<(l0.length:Int):=odA;obtain⟨adx2,Ax4,cx4,Ax5,cx5,Ax6,cx6,ex2,hxx6,hxx7,hxx8,hxx9,hxx10,hlx4,hix4,hlx5,hix5,hlx6,hix6⟩:=at_T97 HR0.out x5_1 px2 qx2;obtain rfl:adx1=adx2:=(by injection ex2);have HRx4:=aM hix4;have HCx4:=aM hlx4;clear hix4 hlx4;have HRx5:=aM hix5;have HCx5:=aM hlx5;clear hix5 hlx5;have HRx6:=aM hix6;have HCx6:=aM hlx6;clear hix6 hlx6;replace px2:=eq_true px2;replace qx2:=eq_true qx2;have ea_:=Option.some.inj (hxx1.symm.trans hxx6);injection ea_ with ea_ en_ ec_;subst ea_;subst ec_;clear en_;have ea_:=Option.some.inj (hxx4.symm.trans hxx9);injection ea_ with ea_ en_ ec_;subst ea_;subst ec_;clear en_;have ea_:=Option.some.inj (hxx5.symm.trans hxx10);injection ea_ with ea_ en_ ec_;subst ea_;subst ec_;clear en_;have px3:0≤(x5_1:Int):=odA;have qx3:x5_1<(l0.length:Int):=odA;obtain⟨adx3,Ax7,cx7,Ax8,cx8,Ax9,cx9,ex3,hxx11,hxx12,hxx13,hxx14,hxx15,hlx7,hix7,hlx8,hix8,hlx9,hix9⟩:=at_T97 HR0.out x5_1 px3 qx3;obtain rfl:adx1=adx3:=(by injection ex3);have HRx7:=aM hix7;have HCx7:=aM hlx7;clear hix7 hlx7;have HRx8:=aM hix8;have HCx8:=aM hlx8;clear hix8 hlx8;have HRx9:=aM hix9;have HCx9:=aM hlx9;clear hix9 hlx9;replace px3:=eq_true px3;replace qx3:=eq_true qx3;have ea_:=Option.some.inj (hxx1.symm.trans hxx11);injection ea_ with ea_ en_ ec_;subst ea_;subst ec_;clear en_;have ea_:=Option.some.inj (hxx4.symm.trans hxx14);injection ea_ with ea_ en_ ec_;subst ea_;subst ec_;clear en_;have ea_:=Option.some.inj (hxx5.symm.trans hxx15);injection ea_ with ea_ en_ ec_;subst ea_;subst ec_;clear en_;have px4:0≤(x5_1:Int):=odA;have qx4:x5_1<(l0.length:Int):=odA;obtain⟨adx4,Ax10,cx10,Ax11,cx11,Ax12,cx12,ex4,hxx16,hxx17,hxx18,hxx19,hxx20,hlx10,hix10,hlx11,hix11,hlx12,hix12⟩:=at_T97 HR0.out x5_1 px4 qx4;obtain rfl:adx1=adx4:=(by injection ex4);have HRx10:=aM hix10;have HCx10:=aM hlx10;clear hix10 hlx10;have HRx11:=aM hix11;have HCx11:=aM hlx11;clear hix11 hlx11;have HRx12:=aM hix12;have HCx12:=aM hlx12;clear hix12 hlx12;replace px4:=eq_true px4;replace qx4:=eq_true qx4;have ea_:=Option.some.inj (hxx1.symm.trans hxx16);injection ea_ with ea_ en_ ec_;subst ea_;subst ec_;clear en_;have ea_:=Option.some.inj (hxx4.symm.trans hxx19);injection ea_ with ea_ en_ ec_;subst ea_;subst ec_;clear en_;have ea_:=Option.some.inj (hxx5.symm.trans hxx20);injection ea_ with ea_ en_ ec_;subst ea_;subst ec_;clear en_;refine Stop.out ?_)
   refine⟨?_⟩
   revert H;refine iP ?_ ?_<;>intro c10b0 H
   ·obtain rfl:=sI H
    go_wp2_with (refine gD 136 47 Tryz.func136 (XS.calls _ _ _ _ _ _ _ (rw2 (cX HRx11.out) HCx11.out) A9.out) ?_;intro nd)
    go_ret
    exact⟨by first | rfl | (simp;done) | (simp[*];done),dX⟩
   replace H:=bE H;obtain⟨t108,A11,H⟩:=H
   go_wp2_with (first | (refine gD 136 47 Tryz.func136 (XS.calls _ _ _ _ _ _ _ (rw2 (cX HRx11.out) HCx11.out) A9.out) ?_;intro nd;have px5:0≤(x5_1:Int):=odA;have qx5:x5_1<(l0.length:Int):=odA;obtain⟨adx5,Ax13,cx13,Ax14,cx14,Ax15,cx15,ex5,hxx21,hxx22,hxx23,hxx24,hxx25,hlx13,hix13,hlx14,hix14,hlx15,hix15⟩:=at_T97 HR0.out x5_1 px5 qx5;obtain rfl:adx1=adx5:=(by injection ex5);have HRx13:=aM hix13;have HCx13:=aM hlx13;clear hix13 hlx13;have HRx14:=aM hix14;have HCx14:=aM hlx14;clear hix14 hlx14;have HRx15:=aM hix15;have HCx15:=aM hlx15;clear hix15 hlx15;replace px5:=eq_true px5;replace qx5:=eq_true qx5;have ea_:=Option.some.inj (hxx1.symm.trans hxx21);injection ea_ with ea_ en_ ec_;subst ea_;subst ec_;clear en_;have ea_:=Option.some.inj (hxx4.symm.trans hxx24);injection ea_ with ea_ en_ ec_;subst ea_;subst ec_;clear en_;have ea_:=Option.some.inj (hxx5.symm.trans hxx25);injection ea_ with ea_ en_ ec_;subst ea_;subst ec_;clear en_) | (refine gD 137 56 Tryz.func137 (XY.calls _ _ _ _ _ _ _ (rw2 (cX HRx15.out) HCx15.out) A11.out) ?_;intro nd;refine Stop.out ?_))
   refine⟨?_⟩
   revert H;refine iP ?_ ?_<;>intro c12b0 H
   ·obtain rfl:=sI H
    go_wp2
    go_ret
    exact⟨by first | rfl | (simp;done) | (simp[*];done),dX⟩
   have H':=aM H
   clear H
   go_wp2
   go_roundg k1
   case measure=>have:=HKy1.out;omega
   case rel=>exact⟨(t108),(wrap64 (x5_1+1)),rS,rS,H',⟨by have:=HKy1.out;omega⟩,dX⟩
end Go.Proofs.YtmljebgideecjaaGreat.P2
