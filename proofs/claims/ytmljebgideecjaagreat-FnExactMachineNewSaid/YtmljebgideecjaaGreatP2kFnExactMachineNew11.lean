/- A part of the proof of the law FnExactMachineNew: texts of this seat, merged (words, printed functions of the program, plain lemmas). Conditions: none of its own. -/
import Derived.Lib.SliceRun
import Derived.Test.YtmljebgideecjaaGreatP2kFnExactMachineNew9
set_option linter.unusedSimpArgs false
set_option linter.unusedVariables false
set_option maxHeartbeats 8000000
set_option maxRecDepth 100000
namespace Go.Proofs.YtmljebgideecjaaGreat.P2
open Go.Proofs.YtmljebgideecjaaGreatZ Go.RowKit Go.Proofs.YtmljebgideecjaaGreatW.PrintWords Go.Proofs.YtmljebgideecjaaGreatW.PrintLast Go.Proofs.YtmljebgideecjaaGreatW.PrintMore
attribute [local go_sem] max2_int min2_int max_two min_two max_three min_three max_four min_four   -- for this text's walks alone
def Xaq.f (a0:Bool) (a1:Int):Option (Int):=if a0=true then (some a1) else (some (-1))
theorem Xaq.calls (a0:Bool) (a1:Int) (r:Int) (w:World) (H:Xaq.f a0 a1=some r) :
  Calls Tryz.prog 203 #[.bool a0,.int .i64 a1] w fun e w'=>e = .returned (.int .i64 r)∧Drawn0 w w':=by
 unfold Xaq.f at H
 go_enter Tryz.func203,Tryz.ntmps203
 by_cases c3:a0=true
 ·subst c3
  rw[if_pos rfl] at H
  obtain rfl:=sI H
  go_wp2
  go_ret
  exact⟨by first | rfl | (simp;done) | (simp[*];done),dX⟩
 replace c3:=Bool.eq_false_iff.mpr c3
 subst c3
 rw[if_neg nft] at H
 obtain rfl:=sI H
 go_wp2
 go_ret
 exact⟨by first | rfl | (simp;done) | (simp[*];done),dX⟩
def XaF.f (l0_0:List Int) (a0_1:Int):Option (List Int × Int):=(slices_Clone_int_int.f l0_0).bind fun t103=>(some (t103,a0_1))
theorem XaF.calls (A0_0:Option Addr) (c0_0:Nat) (l0_0:List Int) (a0_1:Int) (r1:List Int) (r2:Int) (w:World) (h0_0:Rw (Kd.int .i64) w A0_0 c0_0 l0_0) (h:XaF.f l0_0 a0_1=some (r1,r2)) :
  Calls Tryz.prog 68 #[.agg #[.slice A0_0 l0_0.length c0_0,.int .i64 a0_1]] w fun e w'=>∃ v0_:Value,e = .returned (.agg #[v0_,.int .i64 r2])∧Kd.R (Kd.int .i64) 3 w' w.heap.size (fun _=>True) v0_ r1∧Below w.heap.size w w':=by
 have hu41:=Tryz.underlying41
 obtain⟨HR0_0,HC0_0⟩:=h0_0
 have HB:=aM (Below.refl w.heap.size w)
 have H:=h
 unfold XaF.f at H
 clear h
 replace H:=bE H;obtain⟨t103,A2,H⟩:=H
 simp only[Option.some.injEq,Prod.mk.injEq] at H
 obtain⟨rfl,rfl⟩:=H
 go_enter Tryz.func68,Tryz.ntmps68
 try go_wp2_with (first | (refine boxE 1 #[.slice A0_0 l0_0.length c0_0,.int .i64 a0_1] 41 ?_;intro gbz1 hg wz1 hbox hb;have BKz1:=aM (hbox);have GWz1:=aG hg HB;replace HB:=aS HB hb;clear hb hbox hg) | (refine boxE 2 #[.slice none 0 0,.int .i64 0] 41 ?_;intro gbz2 hg wz2 hbox hb;have BKz2:=aM (hbox);have GWz2:=aG hg HB;have NBz1:=aL hg BKz1;have NBz2:=aR hg BKz1;replace BKz1:=aB BKz1 hb;replace HB:=aS HB hb;clear hb hbox hg))
 replace BKz1:=aM (blk_drew BKz1.out)
 replace BKz2:=aM (blk_drew BKz2.out)
 replace HB:=aM (below_drew1 HB.out)
 refine start_ (n:=7) (S:=fun w'=>w'.cell? ⟨gbz1,0,none⟩=some (.slice A0_0 l0_0.length c0_0)∧w'.cell? ⟨gbz1,1,none⟩=some (.int .i64 a0_1)) (ds:=[]) (bm 7 0) (by kernel_rfl) rfl (by kernel_rfl) ⟨cK BKz1.out 0,cK BKz1.out 1⟩ (fun hHeld => ?_)
 generalize wz2.drew=wz3 at BKz1 BKz2 HB hHeld ⊢
 refine pK 0 3 (bm 7 1) ?_
 refine pK 3 6 (bm 7 9) ?_
 refine tK 1 4 (bm 7 11) hHeld ?_
 refine tK 4 7 (bm 7 27) hHeld ?_
 refine oK 2 (some 5) (bm 7 31) (fun K hK => ?_)
 refine goesN Tryz.func121 #[.slice A0_0 l0_0.length c0_0] ?_
 refine(slices_Clone_int_int.calls _ _ l0_0 t103 _ (cC HR0_0.out HB.out) HC0_0.out A2.out).mono ?_
 rintro e wz4 ⟨vz1,rfl,hoz1,hb⟩
 refine⟨_,rfl,?_⟩
 have HOz1:=aM (Kd.R_lower hoz1 (below_size (hX HB.out)))
 replace BKz1:=aB BKz1 hb
 replace BKz2:=aB BKz2 hb
 replace HB:=aS HB hb
 (try clear hb)
 (try clear hk)
 (try clear hoz1)
 obtain⟨Aoz1,coz1,eoz1⟩:=Kd.R_slice HOz1.out
 (first | subst eoz1 | (injection eoz1 with f1_ f2_ f3_;have fz1:=f1_.symm;have fz2:=f3_.symm;clear f1_ f2_ f3_;subst fz1;subst fz2))
 refine hK.out _ _ ⟨cK BKz1.out 0,cK BKz1.out 1⟩ (fun hHeld => ?_)
 clear hK K
 refine nZ 5 ?_
 refine pK 5 8 (bm 7 63) ?_
 refine oK 6 none (bm 7 127) (fun K hK => ?_)
 have hsz1:wz4.cell? ⟨gbz2,0,none⟩=some (.slice none 0 0):=(blk_cell BKz2.out 0).trans rfl
 have hfsz1:=blk_frozen BKz2.out 0
 have hnsz1:=NBz1.out
 have hmsz1:=NBz2.out
 have hsz2:wz4.cell? ⟨gbz2,1,none⟩=some (.int .i64 0):=(blk_cell BKz2.out 1).trans rfl
 have hfsz2:=blk_frozen BKz2.out 1
 have hnsz2:=NBz1.out
 have hmsz2:=NBz2.out
 refine skip_ (w1:=?_) (by rfl) rfl ?_ ?_
 rotate_left
 ·go_simp
  rfl
 refine hK.out _ _ ⟨(fA NBz1.out hHeld.1),(fA NBz1.out hHeld.2)⟩ (fun hHeld => ?_)
 clear hK K
 refine done_ (by kernel_rfl) ?_
 try go_wp2
 refine bodyPost_ret (results_cell_row rfl _ _ gbz2 41 #[.slice Aoz1 t103.length coz1,.int .i64 a0_1] (0,0) _ rfl (bP BKz2.out) Tryz.underlying41 rfl (by kernel_rfl)) rfl ?_
 exact⟨_,rE,(Kd.R_mono (rF HOz1.out BKz2.out) (fun _ hk=>trivial)),(hX HB.out)⟩
def Xbc.f (l0:List (S69)):Option (List (S69)):=if l0.length<5864062014805 then some l0 else none
theorem Xbc.calls (A0:Option Addr) (c0:Nat) (l0:List (S69)) (r:List (S69)) (w:World) (hr0:Kd.C k69 w A0 l0.length l0) (hc0:l0.length≤c0) (h:Xbc.f l0=some r) :
  Calls Tryz.prog 127 #[.slice A0 l0.length c0] w fun e w'=>∃ v0_:Value,e = .returned (v0_)∧Kd.R k69 69 w' w.heap.size (fun _=>True) v0_ r∧Below w.heap.size w w':=by
 unfold Xbc.f at h
 split at h
 ·rename_i hlen
  obtain rfl:=Option.some.inj h
  have HL:=aM hlen
  have HRz1:=aM hr0
  have HB:=aM (Below.refl w.heap.size w)
  have qz1:∀ (w:World) (a:Option Addr) (n c:Nat),(binOp .eql 93 (.slice a n c) (.slice none 0 0)).run Tryz.prog w = .ok (.bool a.isNone) w:=fun w a n c=>Go.Lib.run_eql_slice_nil w _ _ a n c 0 0 Tryz.underlying93
  clear h hlen
  cases A0 with
  | none =>
   have hy1:l0=[]:=by
    rcases Nat.eq_zero_or_pos l0.length with hy2 | hy2
    ·exact List.length_eq_zero_iff.1 hy2
    obtain⟨ad,hy3,_⟩:=hr0.2.2 hy2
    cases hy3
   subst hy1
   clear hr0 HRz1
   go_enter Tryz.func127,Tryz.ntmps127
   go_wp2
   go_ret
   exact⟨_,rfl,Kd.R_nil _ _ _ _ _,HB.out⟩
  | some ad =>
   clear hr0
   go_enter Tryz.func127,Tryz.ntmps127
   go_wp2_with (first | ((with_reducible refine gate_dst (N:=5) rfl ?_);refine Kd.R_lit k69 _ 69 ?hg (N:=5) ?hd (xs:=([]:List (S69))) (inner:=[]) (ok:=fun _=>True) (okp:=fun _=>True) ?hr ?hp (fun _ hk=>hk) trivial (Below.refl _ _) (Nat.le_refl _) (by simp) ?_;(case hd=>rfl);(case hg=>rfl);(case hr=>first | (go_simp;done) | (go_simp;rfl));(case hp=>exact(Reps.none _ _));intro vy1 wy1 ho hb hg_ hnew_;clear hg_ hnew_;have HO:=aM (Kd.R_lower ho (below_size (hX HB.out)));replace HB:=aS HB hb;clear ho hb) | ((with_reducible refine gate_builtin (b:=.append) (xs:=#[.tmp 5,.tmp 6]) rfl ?_);at_builtin;refine Kd.R_append_rows k69 (w0:=w) w.heap.size rfl (.tmp 5) (.tmp 6) 93 69 ((.agg #[(.int .i64 0),(.int .i64 0),(.int .i64 0)])) 24 rfl Tryz.underlying93 info69 rfl (by decide) (by omega) vy1 [] l0 _ _ _ (fun _=>True) (fun _=>False) rfl rfl (rX HO.out) (cC HRz1.out HB.out) (fun _ _ h=>h) (fun _ h=>h.elim) (fun _ _=>trivial) (hX HB.out) (below_size (hX HB.out)) (by have:=HL.out;simp only[List.length_nil];omega) ?_;intro vy2 wy2 ho hb hg hat;replace HO:=aM ho;replace HB:=aM hb;clear ho hb hg hat))
   go_ret
   exact⟨_,rfl,(rX HO.out),(hX HB.out)⟩
 simp at h
def Xy.l0:Nat→List Int→Int→Int→Option (Int × List Int)
 | 0,_,_,_=>none
 | k+1,x0,x1,x5=>if x5<(x0.length:Int) then (if 0≤x5 then (Xy.l0 k (x0.set (x5:Int).toNat x1) (wrap64 (x1+1)) (wrap64 (x5+1))) else (none)) else (some (x1,x0))
def Xy.f (k:Nat) (l0:List Int) (a1:Int):Option (Int × List Int):=Xy.l0 k l0 a1 0
theorem Xy.calls (k:Nat) (P0_:Nat→Prop) (u9000_:Value) (l0:List Int) (a1:Int) (r1:Int) (r2:List Int) (w0 w:World) (hB:Below w0.heap.size w0 w) (ho0:Kd.R (Kd.int .i64) 3 w w0.heap.size P0_ u9000_ l0) (H:Xy.f k l0 a1=some (r1,r2)) :
  Calls Tryz.prog 71 #[u9000_,.int .i64 a1] w fun e w'=>e = .returned (.int .i64 r1)∧Kd.R (Kd.int .i64) 3 w' w0.heap.size (fun k_=>(P0_ k_ ∨ w.heap.size≤k_)) u9000_ r2∧Below w0.heap.size w0 w'∧Kept w w' (fun k_=>P0_ k_):=by
 have HO0:=aM (show Kd.R (Kd.int .i64) 3 w w0.heap.size (fun k_=>(P0_ k_ ∨ w.heap.size≤k_)) u9000_ l0 from Kd.R_mono ho0 (fun k_ hk=>(.inl hk)))
 have HK:=aM (Kept.refl w (fun k_=>P0_ k_))
 have HW0:=aM hB.size
 have HB:=aM hB
 clear hB
 unfold Xy.f at H
 have H':=aM H
 clear H
 go_enter Tryz.func71,Tryz.ntmps71
 go_wp2
 go_loopg [1,5] k (fun kq v1 v5 w'=>∃ (x0_1:List Int) (x1_1:Int) (x5_1:Int),v1 = .int .i64 x1_1∧v5 = .int .i64 x5_1∧Aside0 (Xy.l0 kq x0_1 x1_1 x5_1=some (r1,r2))∧Aside0 (kq≤k)∧Aside0 (Kd.R (Kd.int .i64) 3 w' w0.heap.size (fun k_=>(P0_ k_ ∨ w.heap.size≤k_)) u9000_ x0_1)∧Aside0 (Kept w w' (fun k_=>P0_ k_))∧Aside0 (Below w0.heap.size w0 w'))
 case atStart=>exact⟨(l0),(a1),(0),rS,rS,H',⟨Nat.le_refl _⟩,⟨(rX HO0.out)⟩,⟨by repeat (first | (with_reducible first | exact HK.out | apply Kept.alloc | apply Kept.drewN | apply Kept.drew) | exact HK.out)⟩,⟨(hX HB.out)⟩⟩
 case round =>
  clear H'
  obtain⟨x0_1,x1_1,x5_1,rfl,rfl,HA,HKy1,HO_y1,HK,HB⟩:=hrel
  cases gk with
  | zero=>exact absurd HA.out (by simp[Xy.l0])
  | succ k1 =>
   have H:=HA.out
   clear HA
   simp only[Xy.l0] at H
   revert H;refine iN ?_ ?_<;>intro c3b0 H
   ·simp only[Option.some.injEq,Prod.mk.injEq] at H
    obtain⟨rfl,rfl⟩:=H
    obtain⟨Aox1,cox1,eox1⟩:=Kd.R_slice HO_y1.out
    subst eox1
    go_wp2
    go_ret
    exact⟨rE,(rX HO_y1.out),(hX HB.out),by repeat (first | (with_reducible first | exact HK.out | apply Kept.alloc | apply Kept.drewN | apply Kept.drew) | exact HK.out)⟩
   replace H:=ifQ H;obtain⟨c4b0,H⟩:=H
   obtain⟨y101,hy101⟩:∃ y_:List Int,y_=(x0_1.set (x5_1:Int).toNat x1_1):=⟨_,rfl⟩
   replace H:(Xy.l0 k1 y101 (wrap64 (x1_1+1)) (wrap64 (x5_1+1)))=some (r1,r2):=yH H hy101
   have Ny101:=aM hy101
   clear hy101
   have H':=aM H
   clear H
   obtain⟨Aox1,cox1,eox1⟩:=Kd.R_slice HO_y1.out
   subst eox1
   have px1:0≤(x5_1:Int):=odA
   have qx1:(x5_1:Int)<((x0_1.length:Int):Int):=odA
   obtain⟨gox1,cox2,eox2,gbx1,glx1,clx1,HGx1⟩:=Kd.R_form HO_y1.out (by omega)
   (first | cases eox2 | (injection eox2 with ea_ en_ ec_;(first | subst ea_ | (injection ea_ with ea_;subst ea_));subst ec_;clear en_))
   have GBx1:=aM gbx1
   have GGx1:=aM HGx1
   clear gbx1 glx1 HGx1
   have HMgox1:=aM (show (P0_ gox1 ∨ w.heap.size≤gox1) from (HO_y1.out.1 _ rfl))
   obtain⟨hxx1,hfx1⟩:=Kd.R_celln 0 HO_y1.out (x5_1:Int) px1 qx1
   replace px1:=eq_true px1
   replace qx1:=eq_true qx1
   have HPx1:=Kd.R_putg HO_y1.out (x5_1:Int) x1_1
   go_wp2_with ((with_reducible refine gate_store (t:=3) (p:=15) rfl ?_);refine store_event (t:=3) (p:=15) (v:=?vo_wx1) (w1:=(wr.setCell ⟨gox1,(x5_1:Int).toNat,none⟩ (.int .i64 x1_1))) ?hg ?ho ?hn ?hr ?_;(case ho=>rfl);(case hg=>rfl);(case hn=>rfl);(case hr=>first | (go_simp;done) | (go_simp;rfl));intro wx1 hw;have hg:wr.grownBy wx1 (some gox1):=(by rw[hw];exact HPx1.2);have hp_:Kd.R (Kd.int .i64) 3 wx1 w0.heap.size (fun k_=>(P0_ k_ ∨ w.heap.size≤k_)) (.slice (some ⟨gox1,0,none⟩) x0_1.length cox1) y101:=(by rw[hw,Ny101.out];exact HPx1.1);clear HPx1;replace HB:=aM ((by rw[hw];exact below_set (HB.out) GBx1.out:Below w0.heap.size w0 wx1));replace HK:=aM (Kept.of_grown (S:=(fun k_=>P0_ k_)) hg (by repeat (first | (with_reducible first | exact HK.out | apply Kept.alloc | apply Kept.drewN | apply Kept.drew) | exact HK.out)) (fun k_ e_=>(HO_y1.out.1 k_ e_)));replace HO_y1:=aM (hp_);clear hg hw hp_)
   go_roundg k1
   case measure=>have:=HKy1.out;omega
   case rel=>exact⟨(y101),(wrap64 (x1_1+1)),(wrap64 (x5_1+1)),rS,rS,H',⟨by have:=HKy1.out;omega⟩,⟨(rX HO_y1.out)⟩,⟨by repeat (first | (with_reducible first | exact HK.out | apply Kept.alloc | apply Kept.drewN | apply Kept.drew) | exact HK.out)⟩,⟨(hX HB.out)⟩⟩
def X8.l0:Nat→List (S69)→Int→Int→Option (Int × (List (S69)))
 | 0,_,_,_=>none
 | k+1,x0,x1,x5=>if x5<(x0.length:Int) then (if 0≤x5 then (X8.l0 k (x0.set (x5:Int).toNat (⟨x1,wrap64 (x1+1),wrap64 ((wrap64 (x1+1))+1)⟩:S69)) (wrap64 ((wrap64 ((wrap64 (x1+1))+1))+1)) (wrap64 (x5+1))) else (none)) else (some (x1,x0))
def X8.f (k:Nat) (l0:List (S69)) (a1:Int):Option (Int × (List (S69))):=X8.l0 k l0 a1 0
theorem X8.calls (k:Nat) (P0_:Nat→Prop) (u9000_:Value) (l0:List (S69)) (a1:Int) (r1:Int) (r2:List (S69)) (w0 w:World) (hB:Below w0.heap.size w0 w) (ho0:Kd.R k69 69 w w0.heap.size P0_ u9000_ l0) (h:X8.f k l0 a1=some (r1,r2)) :
  Calls Tryz.prog 72 #[u9000_,.int .i64 a1] w fun e w'=>e = .returned (.int .i64 r1)∧Kd.R k69 69 w' w0.heap.size P0_ u9000_ r2∧Below w0.heap.size w0 w'∧Kept w w' (fun k_=>P0_ k_):=by
 have HO0:=Aside0.mk (Deep.S_flat rfl ho0)
 have HK:=aM (Kept.refl w (fun k_=>P0_ k_))
 have HB:=Aside0.mk hB
 clear hB ho0
 have H':=aM (show X8.l0 k l0 a1 0=some (r1,r2) from h)
 clear h
 go_enter Tryz.func72,Tryz.ntmps72
 go_wp2
 go_loopg [1,5] k (fun kq v1 v5 w'=>∃ (x0:List (S69)) (x1:Int) (x5:Int),v1 = .int .i64 x1∧v5 = .int .i64 x5∧Aside0 (X8.l0 kq x0 x1 x5=some (r1,r2))∧Aside0 (kq≤k)∧Aside0 (Kd.S k69 69 w' w0.heap.size P0_ u9000_ x0)∧Aside0 (Kept w w' (fun k_=>P0_ k_))∧Aside0 (Below w0.heap.size w0 w'))
 case atStart=>exact⟨l0,a1,0,(by first | rfl | (simp;done) | (simp[*];done)),(by first | rfl | (simp;done) | (simp[*];done)),H',⟨Nat.le_refl _⟩,HO0,HK,HB⟩
 case round =>
  clear H'
  try clear p2
  obtain⟨x0,x1,x5,rfl,rfl,HA,HK1,HO,HK,HB⟩:=hrel
  cases gk with
  | zero=>exact absurd HA.out (by simp[X8.l0])
  | succ k1 =>
   have H:=HA.out
   clear HA
   simp only[X8.l0] at H
   by_cases c3:x5<(x0.length:Int)
   ·rw[if_pos c3] at H
    have hq0:=Aside0.mk c3
    have c3b0:decide (x5<(x0.length:Int))=true:=decide_eq_true c3
    by_cases c4:0≤x5
    ·rw[if_pos c4] at H
     have hp0:=Aside0.mk c4
     have c4b0:decide (0≤x5)=true:=decide_eq_true c4
     have H':=Aside0.mk H
     clear H
     obtain⟨go,co,eo,gb,gl,cl,HG⟩:=Kd.S_form HO.out (by omega)
     subst eo
     have GB:=Aside0.mk gb
     clear gb gl HG
     have HM:=aM (show P0_ go from ((Kd.S_R HO.out).1 _ rfl))
     obtain⟨oki,ce,hcl,hM,hcc,hfr,hoki,hH⟩:=Kd.S_elem HO.out z69 x5 c4 c3
     obtain rfl:=k69_openM hM
     have hok:=Aside0.mk hoki
     have HH:=Aside0.mk hH
     have hx0:wr.cell? ⟨go,x5.toNat * 3,none⟩=some (.int .i64 (rd_T69 x0 x5).f0):=(Deep.H_facts HH.out hp0.out hq0.out).1 0 _ rfl
     have hz0:wr.frozen? ⟨go,x5.toNat * 3,none⟩=false:=(Deep.H_facts HH.out hp0.out hq0.out).2 0
     clear hcl hM hcc hfr hoki hH 
     clear HO
     replace c3:=eq_true c3
     replace c4:=eq_true c4
     go_wp2_with (first | ((with_reducible refine gate_store (t:=3) (p:=16) rfl ?_);refine store_event (t:=3) (p:=16) (v:=?vo_wz1) (w1:=(wr.setCell ⟨go,x5.toNat * 3,none⟩ (.int .i64 x1))) ?hg ?ho ?hn ?hr ?_;(case ho=>rfl);(case hg=>rfl);(case hn=>rfl);(case hr=>first | (go_simp;done) | (go_simp;rfl));intro wz1 hw;have hp_:=Deep.H_put HH.out hp0.out hq0.out 0 (.int .i64 x1) (by decide) rfl;have hg:wr.grownBy wz1 (some go):=(by rw[hw];exact hp_.2);have n0_:=aM (show Kd.H k69 69 wz1 w0.heap.size P0_ (.slice (some ⟨go,0,none⟩) x0.length co) x0 x5 oki [.int .i64 x1,.int .i64 (rd_T69 x0 x5).f1,.int .i64 (rd_T69 x0 x5).f2] from by rw[hw];exact hp_.1);have n1_:=aM (show Below w0.heap.size w0 wz1 from by rw[hw];exact below_set HB.out GB.out);have n2_:=aM (Kept.of_grown (S:=(fun k_=>P0_ k_)) hg HK.out (fun k_ e_ => .inl ((Option.some.inj e_) ▸ HM.out)));clear HH HB HK hp_ hg hw;have HH:=n0_;have HB:=n1_;have HK:=n2_;clear n0_ n1_ n2_;have hx1:wz1.cell? ⟨go,x5.toNat * 3+1,none⟩=some (.int .i64 (rd_T69 x0 x5).f1):=(Deep.H_facts HH.out hp0.out hq0.out).1 1 _ rfl;have hz1:wz1.frozen? ⟨go,x5.toNat * 3+1,none⟩=false:=(Deep.H_facts HH.out hp0.out hq0.out).2 1) | ((with_reducible refine gate_store (t:=3) (p:=23) rfl ?_);refine store_event (t:=3) (p:=23) (v:=?vo_wz2) (w1:=(wz1.setCell ⟨go,x5.toNat * 3+1,none⟩ (.int .i64 (wrap64 (x1+1))))) ?hg ?ho ?hn ?hr ?_;(case ho=>rfl);(case hg=>rfl);(case hn=>rfl);(case hr=>first | (go_simp;done) | (go_simp;rfl));intro wz2 hw;have hp_:=Deep.H_put HH.out hp0.out hq0.out 1 (.int .i64 (wrap64 (x1+1))) (by decide) rfl;have hg:wz1.grownBy wz2 (some go):=(by rw[hw];exact hp_.2);have n0_:=aM (show Kd.H k69 69 wz2 w0.heap.size P0_ (.slice (some ⟨go,0,none⟩) x0.length co) x0 x5 oki [.int .i64 x1,.int .i64 (wrap64 (x1+1)),.int .i64 (rd_T69 x0 x5).f2] from by rw[hw];exact hp_.1);have n1_:=aM (show Below w0.heap.size w0 wz2 from by rw[hw];exact below_set HB.out GB.out);have n2_:=aM (Kept.of_grown (S:=(fun k_=>P0_ k_)) hg HK.out (fun k_ e_ => .inl ((Option.some.inj e_) ▸ HM.out)));clear HH HB HK hp_ hg hw;have HH:=n0_;have HB:=n1_;have HK:=n2_;clear n0_ n1_ n2_;have hx2:wz2.cell? ⟨go,x5.toNat * 3+2,none⟩=some (.int .i64 (rd_T69 x0 x5).f2):=(Deep.H_facts HH.out hp0.out hq0.out).1 2 _ rfl;have hz2:wz2.frozen? ⟨go,x5.toNat * 3+2,none⟩=false:=(Deep.H_facts HH.out hp0.out hq0.out).2 2) | ((with_reducible refine gate_store (t:=3) (p:=30) rfl ?_);refine store_event (t:=3) (p:=30) (v:=?vo_wz3) (w1:=(wz2.setCell ⟨go,x5.toNat * 3+2,none⟩ (.int .i64 (wrap64 ((wrap64 (x1+1))+1))))) ?hg ?ho ?hn ?hr ?_;(case ho=>rfl);(case hg=>rfl);(case hn=>rfl);(case hr=>first | (go_simp;done) | (go_simp;rfl));intro wz3 hw;have hp_:=Deep.H_put HH.out hp0.out hq0.out 2 (.int .i64 (wrap64 ((wrap64 (x1+1))+1))) (by decide) rfl;have hg:wz2.grownBy wz3 (some go):=(by rw[hw];exact hp_.2);have n0_:=aM (show Kd.H k69 69 wz3 w0.heap.size P0_ (.slice (some ⟨go,0,none⟩) x0.length co) x0 x5 oki [.int .i64 x1,.int .i64 (wrap64 (x1+1)),.int .i64 (wrap64 ((wrap64 (x1+1))+1))] from by rw[hw];exact hp_.1);have n1_:=aM (show Below w0.heap.size w0 wz3 from by rw[hw];exact below_set HB.out GB.out);have n2_:=aM (Kept.of_grown (S:=(fun k_=>P0_ k_)) hg HK.out (fun k_ e_ => .inl ((Option.some.inj e_) ▸ HM.out)));clear HH HB HK hp_ hg hw;have HH:=n0_;have HB:=n1_;have HK:=n2_;clear n0_ n1_ n2_))
     go_roundg k1
     case measure=>have:=HK1.out;omega
     case rel=>exact⟨(x0.set (x5:Int).toNat (⟨x1,wrap64 (x1+1),wrap64 ((wrap64 (x1+1))+1)⟩:S69)),(wrap64 ((wrap64 ((wrap64 (x1+1))+1))+1)),(wrap64 (x5+1)),(by first | rfl | (simp;done) | (simp[*];done)),(by first | rfl | (simp;done) | (simp[*];done)),H',⟨by have:=HK1.out;omega⟩,⟨Kd.H_back HH.out (k69_mkM _ _ _ (⟨x1,wrap64 (x1+1),wrap64 ((wrap64 (x1+1))+1)⟩:S69) ) (fun _ hk_=>hk_)⟩,HK,HB⟩
    ·rw[if_neg c4] at H
     exact absurd H (by simp)
   ·rw[if_neg c3] at H
    have c3b0:decide (x5<(x0.length:Int))=false:=decide_eq_false c3
    clear c3
    simp only[Option.some.injEq,Prod.mk.injEq] at H
    obtain⟨rfl,rfl⟩:=H
    obtain⟨Ao,co,eo⟩:=Kd.S_slice HO.out
    subst eo
    go_wp2
    go_ret
    exact⟨by first | rfl | (simp[errW_none,errW_some]<;>rfl),Kd.S_R HO.out,HB.out,HK.out⟩
def XC.l0:Nat→List Int→Int→Int→Option (Int)
 | 0,_,_,_=>none
 | k+1,x0,x1,x5=>if x5<(x0.length:Int) then (if 0≤x5 then (if (rd x0 x5)=x1 then (XC.l0 k x0 (wrap64 (x1+1)) (wrap64 (x5+1))) else (some (-1))) else (none)) else (some x1)
def XC.f (k:Nat) (l0:List Int) (a1:Int):Option (Int):=XC.l0 k l0 a1 0
theorem XC.calls (k:Nat) (A0:Option Addr) (c0:Nat) (l0:List Int) (a1:Int) (r:Int) (w:World) (h0:Rw (Kd.int .i64) w A0 c0 l0) (H:XC.f k l0 a1=some r) :
  Calls Tryz.prog 79 #[.slice A0 l0.length c0,.int .i64 a1] w fun e w'=>e = .returned (.int .i64 r)∧Drawn0 w w':=by
 obtain⟨HR0,HC0⟩:=h0
 unfold XC.f at H
 have H':=aM H
 clear H
 go_enter Tryz.func79,Tryz.ntmps79
 go_wp2
 go_loopg [1,5] k (fun kq v1 v5 w'=>∃ (x1_1:Int) (x5_1:Int),v1 = .int .i64 x1_1∧v5 = .int .i64 x5_1∧Aside0 (XC.l0 kq l0 x1_1 x5_1=some r)∧Aside0 (kq≤k)∧Drawn0 w w')
 case atStart=>exact⟨(a1),(0),rS,rS,H',⟨Nat.le_refl _⟩,dX⟩
 case round =>
  clear H'
  obtain⟨x1_1,x5_1,rfl,rfl,HA,HKy1,⟨my1,rfl⟩⟩:=hrel
  cases gk with
  | zero=>exact absurd HA.out (by simp[XC.l0])
  | succ k1 =>
   have H:=HA.out
   clear HA
   simp only[XC.l0] at H
   revert H;refine iN ?_ ?_<;>intro c3b0 H
   ·obtain rfl:=sI H
    go_wp2
    go_ret
    exact⟨by first | rfl | (simp;done) | (simp[*];done),dX⟩
   replace H:=ifQ H;obtain⟨c4b0,H⟩:=H
   revert H;refine eN ?_ ?_<;>intro c5b0 c5b1 H
   ·obtain rfl:=sI H
    have px1:0≤(x5_1:Int):=odA
    have qx1:x5_1<(l0.length:Int):=odA
    obtain⟨adx1,ex1,hxx1⟩:=Kd.at_int HR0.out x5_1 px1 qx1
    cases ex1
    replace px1:=eq_true px1
    replace qx1:=eq_true qx1
    go_wp2
    go_ret
    exact⟨by first | rfl | (simp;done) | (simp[*];done),dX⟩
   have H':=aM H
   clear H
   have px1:0≤(x5_1:Int):=odA
   have qx1:x5_1<(l0.length:Int):=odA
   obtain⟨adx1,ex1,hxx1⟩:=Kd.at_int HR0.out x5_1 px1 qx1
   cases ex1
   replace px1:=eq_true px1
   replace qx1:=eq_true qx1
   go_wp2
   go_roundg k1
   case measure=>have:=HKy1.out;omega
   case rel=>exact⟨(wrap64 (x1_1+1)),(wrap64 (x5_1+1)),rS,rS,H',⟨by have:=HKy1.out;omega⟩,dX⟩
def XX.l0:Nat→List (S140)→Int→Int→Option (Int)
 | 0,_,_,_=>none
 | k+1,x0,x1,x5=>if x5<(x0.length:Int) then (if 0≤x5 then (if ((rd_T140 x0 x5).f0)=x1 then (if ((rd_T140 x0 x5).f1)=(wrap64 (x1+1)) then (if ((rd_T140 x0 x5).f2)=(wrap64 ((wrap64 (x1+1))+1)) then (XX.l0 k x0 (wrap64 ((wrap64 ((wrap64 (x1+1))+1))+1)) (wrap64 (x5+1))) else (some (-1))) else (some (-1))) else (some (-1))) else (none)) else (some x1)
def XX.f (k:Nat) (l0:List (S140)) (a1:Int):Option (Int):=XX.l0 k l0 a1 0
theorem XX.calls (k:Nat) (A0:Option Addr) (c0:Nat) (l0:List (S140)) (a1:Int) (r:Int) (w:World) (h0:Rw k140 w A0 c0 l0) (H:XX.f k l0 a1=some r) :
  Calls Tryz.prog 133 #[.slice A0 l0.length c0,.int .i64 a1] w fun e w'=>e = .returned (.int .i64 r)∧Drawn0 w w':=by
 obtain⟨HR0,HC0⟩:=h0
 unfold XX.f at H
 have H':=aM H
 clear H
 go_enter Tryz.func133,Tryz.ntmps133
 go_wp2
 go_loopg [1,5] k (fun kq v1 v5 w'=>∃ (x1_1:Int) (x5_1:Int),v1 = .int .i64 x1_1∧v5 = .int .i64 x5_1∧Aside0 (XX.l0 kq l0 x1_1 x5_1=some r)∧Aside0 (kq≤k)∧Drawn0 w w')
 case atStart=>exact⟨(a1),(0),rS,rS,H',⟨Nat.le_refl _⟩,dX⟩
 case round =>
  clear H'
  obtain⟨x1_1,x5_1,rfl,rfl,HA,HKy1,⟨my1,rfl⟩⟩:=hrel
  cases gk with
  | zero=>exact absurd HA.out (by simp[XX.l0])
  | succ k1 =>
   have H:=HA.out
   clear HA
   simp only[XX.l0] at H
   revert H;refine iN ?_ ?_<;>intro c3b0 H
   ·obtain rfl:=sI H
    go_wp2
    go_ret
    exact⟨by first | rfl | (simp;done) | (simp[*];done),dX⟩
   replace H:=ifQ H;obtain⟨c4b0,H⟩:=H
   revert H;refine eN ?_ ?_<;>intro c5b0 c5b1 H
   ·obtain rfl:=sI H
    have px1:0≤(x5_1:Int):=odA
    have qx1:x5_1<(l0.length:Int):=odA
    obtain⟨adx1,ex1,hxx1,hxx2,hxx3⟩:=at_T140 HR0.out x5_1 px1 qx1
    cases ex1
    replace px1:=eq_true px1
    replace qx1:=eq_true qx1
    go_wp2
    go_ret
    exact⟨by first | rfl | (simp;done) | (simp[*];done),dX⟩
   revert H;refine eN ?_ ?_<;>intro c6b0 c6b1 H
   ·obtain rfl:=sI H
    have px1:0≤(x5_1:Int):=odA
    have qx1:x5_1<(l0.length:Int):=odA
    obtain⟨adx1,ex1,hxx1,hxx2,hxx3⟩:=at_T140 HR0.out x5_1 px1 qx1
    cases ex1
    replace px1:=eq_true px1
    replace qx1:=eq_true qx1
    have px2:0≤(x5_1:Int):=odA
    have qx2:x5_1<(l0.length:Int):=odA
    obtain⟨adx2,ex2,hxx4,hxx5,hxx6⟩:=at_T140 HR0.out x5_1 px2 qx2
    obtain rfl:adx1=adx2:=(by injection ex2)
    replace px2:=eq_true px2
    replace qx2:=eq_true qx2
    go_wp2
    go_ret
    exact⟨by first | rfl | (simp;done) | (simp[*];done),dX⟩
   revert H;refine eN ?_ ?_<;>intro c7b0 c7b1 H
   ·obtain rfl:=sI H
    have px1:0≤(x5_1:Int):=odA
    have qx1:x5_1<(l0.length:Int):=odA
    obtain⟨adx1,ex1,hxx1,hxx2,hxx3⟩:=at_T140 HR0.out x5_1 px1 qx1
    cases ex1
    replace px1:=eq_true px1
    replace qx1:=eq_true qx1
    have px2:0≤(x5_1:Int):=odA
    have qx2:x5_1<(l0.length:Int):=odA
    obtain⟨adx2,ex2,hxx4,hxx5,hxx6⟩:=at_T140 HR0.out x5_1 px2 qx2
    obtain rfl:adx1=adx2:=(by injection ex2)
    replace px2:=eq_true px2
    replace qx2:=eq_true qx2
    have px3:0≤(x5_1:Int):=odA
    have qx3:x5_1<(l0.length:Int):=odA
    obtain⟨adx3,ex3,hxx7,hxx8,hxx9⟩:=at_T140 HR0.out x5_1 px3 qx3
    obtain rfl:adx1=adx3:=(by injection ex3)
    replace px3:=eq_true px3
    replace qx3:=eq_true qx3
    go_wp2
    go_ret
    exact⟨by first | rfl | (simp;done) | (simp[*];done),dX⟩
   have H':=aM H
   clear H
   have px1:0≤(x5_1:Int):=odA
   have qx1:x5_1<(l0.length:Int):=odA
   obtain⟨adx1,ex1,hxx1,hxx2,hxx3⟩:=at_T140 HR0.out x5_1 px1 qx1
   cases ex1
   replace px1:=eq_true px1
   replace qx1:=eq_true qx1
   have px2:0≤(x5_1:Int):=odA
   have qx2:x5_1<(l0.length:Int):=odA
   obtain⟨adx2,ex2,hxx4,hxx5,hxx6⟩:=at_T140 HR0.out x5_1 px2 qx2
   obtain rfl:adx1=adx2:=(by injection ex2)
   replace px2:=eq_true px2
   replace qx2:=eq_true qx2
   have px3:0≤(x5_1:Int):=odA
   have qx3:x5_1<(l0.length:Int):=odA
   obtain⟨adx3,ex3,hxx7,hxx8,hxx9⟩:=at_T140 HR0.out x5_1 px3 qx3
   obtain rfl:adx1=adx3:=(by injection ex3)
   replace px3:=eq_true px3
   replace qx3:=eq_true qx3
   go_wp2
   go_roundg k1
   case measure=>have:=HKy1.out;omega
   case rel=>exact⟨(wrap64 ((wrap64 ((wrap64 (x1_1+1))+1))+1)),(wrap64 (x5_1+1)),rS,rS,H',⟨by have:=HKy1.out;omega⟩,dX⟩
def XI.l0:Nat→List (S165)→Int→Int→Option (Int)
 | 0,_,_,_=>none
 | k+1,x0,x1,x5=>if x5<(x0.length:Int) then (if 0≤x5 then (if ((rd_T165 x0 x5).f0)=x1 then (if ((rd_T165 x0 x5).f1)=(wrap64 (x1+1)) then (if ((rd_T165 x0 x5).f2)=(wrap64 ((wrap64 (x1+1))+1)) then (XI.l0 k x0 (wrap64 ((wrap64 ((wrap64 (x1+1))+1))+1)) (wrap64 (x5+1))) else (some (-1))) else (some (-1))) else (some (-1))) else (none)) else (some x1)
def XI.f (k:Nat) (l0:List (S165)) (a1:Int):Option (Int):=XI.l0 k l0 a1 0
theorem XI.calls (k:Nat) (A0:Option Addr) (c0:Nat) (l0:List (S165)) (a1:Int) (r:Int) (w:World) (h0:Rw k165 w A0 c0 l0) (H:XI.f k l0 a1=some r) :
  Calls Tryz.prog 197 #[.slice A0 l0.length c0,.int .i64 a1] w fun e w'=>e = .returned (.int .i64 r)∧Drawn0 w w':=by
 obtain⟨HR0,HC0⟩:=h0
 unfold XI.f at H
 have H':=aM H
 clear H
 go_enter Tryz.func197,Tryz.ntmps197
 go_wp2
 go_loopg [1,5] k (fun kq v1 v5 w'=>∃ (x1_1:Int) (x5_1:Int),v1 = .int .i64 x1_1∧v5 = .int .i64 x5_1∧Aside0 (XI.l0 kq l0 x1_1 x5_1=some r)∧Aside0 (kq≤k)∧Drawn0 w w')
 case atStart=>exact⟨(a1),(0),rS,rS,H',⟨Nat.le_refl _⟩,dX⟩
 case round =>
  clear H'
  obtain⟨x1_1,x5_1,rfl,rfl,HA,HKy1,⟨my1,rfl⟩⟩:=hrel
  cases gk with
  | zero=>exact absurd HA.out (by simp[XI.l0])
  | succ k1 =>
   have H:=HA.out
   clear HA
   simp only[XI.l0] at H
   revert H;refine iN ?_ ?_<;>intro c3b0 H
   ·obtain rfl:=sI H
    go_wp2
    go_ret
    exact⟨by first | rfl | (simp;done) | (simp[*];done),dX⟩
   replace H:=ifQ H;obtain⟨c4b0,H⟩:=H
   revert H;refine eN ?_ ?_<;>intro c5b0 c5b1 H
   ·obtain rfl:=sI H
    have px1:0≤(x5_1:Int):=odA
    have qx1:x5_1<(l0.length:Int):=odA
    obtain⟨adx1,ex1,hxx1,hxx2,hxx3⟩:=at_T165 HR0.out x5_1 px1 qx1
    cases ex1
    replace px1:=eq_true px1
    replace qx1:=eq_true qx1
    go_wp2
    go_ret
    exact⟨by first | rfl | (simp;done) | (simp[*];done),dX⟩
   revert H;refine eN ?_ ?_<;>intro c6b0 c6b1 H
   ·obtain rfl:=sI H
    have px1:0≤(x5_1:Int):=odA
    have qx1:x5_1<(l0.length:Int):=odA
    obtain⟨adx1,ex1,hxx1,hxx2,hxx3⟩:=at_T165 HR0.out x5_1 px1 qx1
    cases ex1
    replace px1:=eq_true px1
    replace qx1:=eq_true qx1
    have px2:0≤(x5_1:Int):=odA
    have qx2:x5_1<(l0.length:Int):=odA
    obtain⟨adx2,ex2,hxx4,hxx5,hxx6⟩:=at_T165 HR0.out x5_1 px2 qx2
    obtain rfl:adx1=adx2:=(by injection ex2)
    replace px2:=eq_true px2
    replace qx2:=eq_true qx2
    go_wp2
    go_ret
    exact⟨by first | rfl | (simp;done) | (simp[*];done),dX⟩
   revert H;refine eN ?_ ?_<;>intro c7b0 c7b1 H
   ·obtain rfl:=sI H
    have px1:0≤(x5_1:Int):=odA
    have qx1:x5_1<(l0.length:Int):=odA
    obtain⟨adx1,ex1,hxx1,hxx2,hxx3⟩:=at_T165 HR0.out x5_1 px1 qx1
    cases ex1
    replace px1:=eq_true px1
    replace qx1:=eq_true qx1
    have px2:0≤(x5_1:Int):=odA
    have qx2:x5_1<(l0.length:Int):=odA
    obtain⟨adx2,ex2,hxx4,hxx5,hxx6⟩:=at_T165 HR0.out x5_1 px2 qx2
    obtain rfl:adx1=adx2:=(by injection ex2)
    replace px2:=eq_true px2
    replace qx2:=eq_true qx2
    have px3:0≤(x5_1:Int):=odA
    have qx3:x5_1<(l0.length:Int):=odA
    obtain⟨adx3,ex3,hxx7,hxx8,hxx9⟩:=at_T165 HR0.out x5_1 px3 qx3
    obtain rfl:adx1=adx3:=(by injection ex3)
    replace px3:=eq_true px3
    replace qx3:=eq_true qx3
    go_wp2
    go_ret
    exact⟨by first | rfl | (simp;done) | (simp[*];done),dX⟩
   have H':=aM H
   clear H
   have px1:0≤(x5_1:Int):=odA
   have qx1:x5_1<(l0.length:Int):=odA
   obtain⟨adx1,ex1,hxx1,hxx2,hxx3⟩:=at_T165 HR0.out x5_1 px1 qx1
   cases ex1
   replace px1:=eq_true px1
   replace qx1:=eq_true qx1
   have px2:0≤(x5_1:Int):=odA
   have qx2:x5_1<(l0.length:Int):=odA
   obtain⟨adx2,ex2,hxx4,hxx5,hxx6⟩:=at_T165 HR0.out x5_1 px2 qx2
   obtain rfl:adx1=adx2:=(by injection ex2)
   replace px2:=eq_true px2
   replace qx2:=eq_true qx2
   have px3:0≤(x5_1:Int):=odA
   have qx3:x5_1<(l0.length:Int):=odA
   obtain⟨adx3,ex3,hxx7,hxx8,hxx9⟩:=at_T165 HR0.out x5_1 px3 qx3
   obtain rfl:adx1=adx3:=(by injection ex3)
   replace px3:=eq_true px3
   replace qx3:=eq_true qx3
   go_wp2
   go_roundg k1
   case measure=>have:=HKy1.out;omega
   case rel=>exact⟨(wrap64 ((wrap64 ((wrap64 (x1_1+1))+1))+1)),(wrap64 (x5_1+1)),rS,rS,H',⟨by have:=HKy1.out;omega⟩,dX⟩
def XW.l0:Nat→List (S69)→Int→Int→Option (Int)
 | 0,_,_,_=>none
 | k+1,x0,x1,x5=>if x5<(x0.length:Int) then (if 0≤x5 then (if ((rd_T69 x0 x5).f0)=x1 then (if ((rd_T69 x0 x5).f1)=(wrap64 (x1+1)) then (if ((rd_T69 x0 x5).f2)=(wrap64 ((wrap64 (x1+1))+1)) then (XW.l0 k x0 (wrap64 ((wrap64 ((wrap64 (x1+1))+1))+1)) (wrap64 (x5+1))) else (some (-1))) else (some (-1))) else (some (-1))) else (none)) else (some x1)
def XW.f (k:Nat) (l0:List (S69)) (a1:Int):Option (Int):=XW.l0 k l0 a1 0
theorem XW.calls (k:Nat) (A0:Option Addr) (c0:Nat) (l0:List (S69)) (a1:Int) (r:Int) (w:World) (h0:Rw k69 w A0 c0 l0) (H:XW.f k l0 a1=some r) :
  Calls Tryz.prog 135 #[.slice A0 l0.length c0,.int .i64 a1] w fun e w'=>e = .returned (.int .i64 r)∧Drawn0 w w':=by
 obtain⟨HR0,HC0⟩:=h0
 unfold XW.f at H
 have H':=aM H
 clear H
 go_enter Tryz.func135,Tryz.ntmps135
 go_wp2
 go_loopg [1,5] k (fun kq v1 v5 w'=>∃ (x1_1:Int) (x5_1:Int),v1 = .int .i64 x1_1∧v5 = .int .i64 x5_1∧Aside0 (XW.l0 kq l0 x1_1 x5_1=some r)∧Aside0 (kq≤k)∧Drawn0 w w')
 case atStart=>exact⟨(a1),(0),rS,rS,H',⟨Nat.le_refl _⟩,dX⟩
 case round =>
  clear H'
  obtain⟨x1_1,x5_1,rfl,rfl,HA,HKy1,⟨my1,rfl⟩⟩:=hrel
  cases gk with
  | zero=>exact absurd HA.out (by simp[XW.l0])
  | succ k1 =>
   have H:=HA.out
   clear HA
   simp only[XW.l0] at H
   revert H;refine iN ?_ ?_<;>intro c3b0 H
   ·obtain rfl:=sI H
    go_wp2
    go_ret
    exact⟨by first | rfl | (simp;done) | (simp[*];done),dX⟩
   replace H:=ifQ H;obtain⟨c4b0,H⟩:=H
   revert H;refine eN ?_ ?_<;>intro c5b0 c5b1 H
   ·obtain rfl:=sI H
    have px1:0≤(x5_1:Int):=odA
    have qx1:x5_1<(l0.length:Int):=odA
    obtain⟨adx1,ex1,hxx1,hxx2,hxx3⟩:=at_T69 HR0.out x5_1 px1 qx1
    cases ex1
    replace px1:=eq_true px1
    replace qx1:=eq_true qx1
    go_wp2
    go_ret
    exact⟨by first | rfl | (simp;done) | (simp[*];done),dX⟩
   revert H;refine eN ?_ ?_<;>intro c6b0 c6b1 H
   ·obtain rfl:=sI H
    have px1:0≤(x5_1:Int):=odA
    have qx1:x5_1<(l0.length:Int):=odA
    obtain⟨adx1,ex1,hxx1,hxx2,hxx3⟩:=at_T69 HR0.out x5_1 px1 qx1
    cases ex1
    replace px1:=eq_true px1
    replace qx1:=eq_true qx1
    have px2:0≤(x5_1:Int):=odA
    have qx2:x5_1<(l0.length:Int):=odA
    obtain⟨adx2,ex2,hxx4,hxx5,hxx6⟩:=at_T69 HR0.out x5_1 px2 qx2
    obtain rfl:adx1=adx2:=(by injection ex2)
    replace px2:=eq_true px2
    replace qx2:=eq_true qx2
    go_wp2
    go_ret
    exact⟨by first | rfl | (simp;done) | (simp[*];done),dX⟩
   revert H;refine eN ?_ ?_<;>intro c7b0 c7b1 H
   ·obtain rfl:=sI H
    have px1:0≤(x5_1:Int):=odA
    have qx1:x5_1<(l0.length:Int):=odA
    obtain⟨adx1,ex1,hxx1,hxx2,hxx3⟩:=at_T69 HR0.out x5_1 px1 qx1
    cases ex1
    replace px1:=eq_true px1
    replace qx1:=eq_true qx1
    have px2:0≤(x5_1:Int):=odA
    have qx2:x5_1<(l0.length:Int):=odA
    obtain⟨adx2,ex2,hxx4,hxx5,hxx6⟩:=at_T69 HR0.out x5_1 px2 qx2
    obtain rfl:adx1=adx2:=(by injection ex2)
    replace px2:=eq_true px2
    replace qx2:=eq_true qx2
    have px3:0≤(x5_1:Int):=odA
    have qx3:x5_1<(l0.length:Int):=odA
    obtain⟨adx3,ex3,hxx7,hxx8,hxx9⟩:=at_T69 HR0.out x5_1 px3 qx3
    obtain rfl:adx1=adx3:=(by injection ex3)
    replace px3:=eq_true px3
    replace qx3:=eq_true qx3
    go_wp2
    go_ret
    exact⟨by first | rfl | (simp;done) | (simp[*];done),dX⟩
   have H':=aM H
   clear H
   have px1:0≤(x5_1:Int):=odA
   have qx1:x5_1<(l0.length:Int):=odA
   obtain⟨adx1,ex1,hxx1,hxx2,hxx3⟩:=at_T69 HR0.out x5_1 px1 qx1
   cases ex1
   replace px1:=eq_true px1
   replace qx1:=eq_true qx1
   have px2:0≤(x5_1:Int):=odA
   have qx2:x5_1<(l0.length:Int):=odA
   obtain⟨adx2,ex2,hxx4,hxx5,hxx6⟩:=at_T69 HR0.out x5_1 px2 qx2
   obtain rfl:adx1=adx2:=(by injection ex2)
   replace px2:=eq_true px2
   replace qx2:=eq_true qx2
   have px3:0≤(x5_1:Int):=odA
   have qx3:x5_1<(l0.length:Int):=odA
   obtain⟨adx3,ex3,hxx7,hxx8,hxx9⟩:=at_T69 HR0.out x5_1 px3 qx3
   obtain rfl:adx1=adx3:=(by injection ex3)
   replace px3:=eq_true px3
   replace qx3:=eq_true qx3
   go_wp2
   go_roundg k1
   case measure=>have:=HKy1.out;omega
   case rel=>exact⟨(wrap64 ((wrap64 ((wrap64 (x1_1+1))+1))+1)),(wrap64 (x5_1+1)),rS,rS,H',⟨by have:=HKy1.out;omega⟩,dX⟩
def XS.l0:Nat→List (S172)→Int→Int→Option (Int)
 | 0,_,_,_=>none
 | k+1,x0,x1,x5=>if x5<(x0.length:Int) then (if 0≤x5 then (if ((rd_T172 x0 x5).f0)=x1 then (if ((rd_T172 x0 x5).f1)=(wrap64 (x1+1)) then (XS.l0 k x0 (wrap64 ((wrap64 (x1+1))+1)) (wrap64 (x5+1))) else (some (-1))) else (some (-1))) else (none)) else (some x1)
def XS.f (k:Nat) (l0:List (S172)) (a1:Int):Option (Int):=XS.l0 k l0 a1 0
theorem XS.calls (k:Nat) (A0:Option Addr) (c0:Nat) (l0:List (S172)) (a1:Int) (r:Int) (w:World) (h0:Rw k172 w A0 c0 l0) (H:XS.f k l0 a1=some r) :
  Calls Tryz.prog 136 #[.slice A0 l0.length c0,.int .i64 a1] w fun e w'=>e = .returned (.int .i64 r)∧Drawn0 w w':=by
 obtain⟨HR0,HC0⟩:=h0
 unfold XS.f at H
 have H':=aM H
 clear H
 go_enter Tryz.func136,Tryz.ntmps136
 go_wp2
 go_loopg [1,5] k (fun kq v1 v5 w'=>∃ (x1_1:Int) (x5_1:Int),v1 = .int .i64 x1_1∧v5 = .int .i64 x5_1∧Aside0 (XS.l0 kq l0 x1_1 x5_1=some r)∧Aside0 (kq≤k)∧Drawn0 w w')
 case atStart=>exact⟨(a1),(0),rS,rS,H',⟨Nat.le_refl _⟩,dX⟩
 case round =>
  clear H'
  obtain⟨x1_1,x5_1,rfl,rfl,HA,HKy1,⟨my1,rfl⟩⟩:=hrel
  cases gk with
  | zero=>exact absurd HA.out (by simp[XS.l0])
  | succ k1 =>
   have H:=HA.out
   clear HA
   simp only[XS.l0] at H
   revert H;refine iN ?_ ?_<;>intro c3b0 H
   ·obtain rfl:=sI H
    go_wp2
    go_ret
    exact⟨by first | rfl | (simp;done) | (simp[*];done),dX⟩
   replace H:=ifQ H;obtain⟨c4b0,H⟩:=H
   revert H;refine eN ?_ ?_<;>intro c5b0 c5b1 H
   ·obtain rfl:=sI H
    have px1:0≤(x5_1:Int):=odA
    have qx1:x5_1<(l0.length:Int):=odA
    obtain⟨adx1,ex1,hxx1,hxx2⟩:=at_T172 HR0.out x5_1 px1 qx1
    cases ex1
    replace px1:=eq_true px1
    replace qx1:=eq_true qx1
    go_wp2
    go_ret
    exact⟨by first | rfl | (simp;done) | (simp[*];done),dX⟩
   revert H;refine eN ?_ ?_<;>intro c6b0 c6b1 H
   ·obtain rfl:=sI H
    have px1:0≤(x5_1:Int):=odA
    have qx1:x5_1<(l0.length:Int):=odA
    obtain⟨adx1,ex1,hxx1,hxx2⟩:=at_T172 HR0.out x5_1 px1 qx1
    cases ex1
    replace px1:=eq_true px1
    replace qx1:=eq_true qx1
    have px2:0≤(x5_1:Int):=odA
    have qx2:x5_1<(l0.length:Int):=odA
    obtain⟨adx2,ex2,hxx3,hxx4⟩:=at_T172 HR0.out x5_1 px2 qx2
    obtain rfl:adx1=adx2:=(by injection ex2)
    replace px2:=eq_true px2
    replace qx2:=eq_true qx2
    go_wp2
    go_ret
    exact⟨by first | rfl | (simp;done) | (simp[*];done),dX⟩
   have H':=aM H
   clear H
   have px1:0≤(x5_1:Int):=odA
   have qx1:x5_1<(l0.length:Int):=odA
   obtain⟨adx1,ex1,hxx1,hxx2⟩:=at_T172 HR0.out x5_1 px1 qx1
   cases ex1
   replace px1:=eq_true px1
   replace qx1:=eq_true qx1
   have px2:0≤(x5_1:Int):=odA
   have qx2:x5_1<(l0.length:Int):=odA
   obtain⟨adx2,ex2,hxx3,hxx4⟩:=at_T172 HR0.out x5_1 px2 qx2
   obtain rfl:adx1=adx2:=(by injection ex2)
   replace px2:=eq_true px2
   replace qx2:=eq_true qx2
   go_wp2
   go_roundg k1
   case measure=>have:=HKy1.out;omega
   case rel=>exact⟨(wrap64 ((wrap64 (x1_1+1))+1)),(wrap64 (x5_1+1)),rS,rS,H',⟨by have:=HKy1.out;omega⟩,dX⟩
end Go.Proofs.YtmljebgideecjaaGreat.P2
