/- A part of the proof of the law FnStarts: texts of this seat, merged (words, printed functions of the program, plain lemmas). Conditions: none of its own. -/
import Derived.Test.YthejoblnfpaojaaGreatPkFnStarts10
set_option linter.unusedSimpArgs false
set_option linter.unusedVariables false
set_option maxHeartbeats 8000000
set_option maxRecDepth 100000
namespace Go.Proofs.YthejoblnfpaojaaGreat.P
open Go.Proofs.YthejoblnfpaojaaGreatZ Go.RowKit Go.Proofs.YthejoblnfpaojaaGreatW.PrintWords Go.Proofs.YthejoblnfpaojaaGreatW.PrintLast Go.Proofs.YthejoblnfpaojaaGreatW.PrintMore
attribute [local go_sem] max2_int min2_int max_two min_two max_three min_three max_four min_four   -- for this text's walks alone
def Xb.f (a0:Int) (a1:Int) (a2:Int):Option (Bool):=if a0 ≥ a1 then (some (decide (a0≤a2))) else (some false)
theorem Xb.calls (a0:Int) (a1:Int) (a2:Int) (r:Bool) (w:World) (H:Xb.f a0 a1 a2=some r) :
  Calls Tryz.prog 95 #[.int .i64 a0,.int .i64 a1,.int .i64 a2] w fun e w'=>e = .returned (.bool r)∧Drawn0 w w':=by
 unfold Xb.f at H
 go_enter Tryz.func95,Tryz.ntmps95
 revert H;refine iP ?_ ?_<;>intro c4b0 H
 ·obtain rfl:=sI H
  go_wp2
  go_ret
  exact⟨by first | rfl | (simp;done) | (simp[*];done),dX⟩
 obtain rfl:=sI H
 go_wp2
 go_ret
 exact⟨by first | rfl | (simp;done) | (simp[*];done),dX⟩
def XX.l0:Nat→Int→Int→List Int→Int→Option (Int)
 | 0,_,_,_,_=>none
 | k+1,x1,x5,x102000,x102001=>if x5<(x102000.length:Int) then (if 0≤x5 then (if (rd x102000 x5)=x1 then (some x5) else (XX.l0 k x1 (wrap64 (x5+1)) x102000 x102001)) else (none)) else (some (-1))
def XX.f (k:Nat) (l0_0:List Int) (a0_1:Int) (a1:Int):Option (Int):=XX.l0 k a1 0 l0_0 a0_1
theorem XX.calls (k:Nat) (A0_0:Option Addr) (c0_0:Nat) (l0_0:List Int) (a0_1:Int) (a1:Int) (r:Int) (w:World) (h0_0:Rw (Kd.int .i64) w A0_0 c0_0 l0_0) (H:XX.f k l0_0 a0_1 a1=some r) :
  Calls Tryz.prog 183 #[.agg #[.slice A0_0 l0_0.length c0_0,.int .i64 a0_1],.int .i64 a1] w fun e w'=>e = .returned (.int .i64 r)∧Below w.heap.size w w':=by
 have hu26:=Tryz.underlying26
 obtain⟨HR0_0,HC0_0⟩:=h0_0
 have HB:=aM (Below.refl w.heap.size w)
 unfold XX.f at H
 have H':=aM H
 clear H
 go_enter Tryz.func183,Tryz.ntmps183
 go_wp2_with (refine boxE 2 #[.slice A0_0 l0_0.length c0_0,.int .i64 a0_1] 26 ?_;intro gbz1 hg wz1 hbox hb;have BKz1:=aM (hbox);have GWz1:=aG hg HB;replace HB:=aS HB hb;clear hb hbox hg)
 go_loopg [5] k (fun kq v5 w'=>∃ (x5_1:Int),v5 = .int .i64 x5_1∧Aside0 (XX.l0 kq a1 x5_1 l0_0 a0_1=some r)∧Aside0 (kq≤k)∧Aside0 (w'.heap[gbz1]? = some (.cells #[(.slice A0_0 l0_0.length c0_0),.int .i64 a0_1] 26 (0,0)))∧Aside0 (Below w.heap.size w w'))
 case atStart=>exact⟨(0),rS,H',⟨Nat.le_refl _⟩,⟨(bX BKz1.out)⟩,⟨(hX HB.out)⟩⟩
 case round =>
  clear H'
  obtain⟨x5_1,rfl,HA,HKy1,BKz1,HB⟩:=hrel
  cases gk with
  | zero=>exact absurd HA.out (by simp[XX.l0])
  | succ k1 =>
   have H:=HA.out
   clear HA
   simp only[XX.l0] at H
   revert H;refine iN ?_ ?_<;>intro c4b0 H
   ·obtain rfl:=sI H
    have hczx1:=cZ2 BKz1.out
    exact fS
   replace H:=ifQ H;obtain⟨c5b0,H⟩:=H
   revert H;refine eP ?_ ?_<;>intro c6b0 c6b1 H
   ·obtain rfl:=sI H
    have hczx1:=cZ2 BKz1.out
    obtain⟨adx1,ex1,px1,qx1,hxx1⟩:=at_ic HR0_0 HB x5_1
    cases ex1
    exact fS
   have H':=aM H
   clear H
   have hczx1:=cZ2 BKz1.out
   obtain⟨adx1,ex1,px1,qx1,hxx1⟩:=at_ic HR0_0 HB x5_1
   cases ex1
   go_wp2
   go_roundg k1
   case measure=>have:=HKy1.out;omega
   case rel=>exact⟨(wrap64 (x5_1+1)),rS,H',⟨by have:=HKy1.out;omega⟩,⟨(bX BKz1.out)⟩,⟨(hX HB.out)⟩⟩
def Xar.f  : Option (Int):=some 13
theorem Xar.calls  (r:Int) (w:World) (H:Xar.f  = some r) :
  Calls Tryz.prog 165 #[] w fun e w'=>e = .returned (.int .i64 r)∧Drawn0 w w':=by
 unfold Xar.f at H
 obtain rfl:=sI H
 go_enter Tryz.func165,Tryz.ntmps165
 go_wp2
 go_ret
 exact⟨by first | rfl | (simp;done) | (simp[*];done),dX⟩
def Xag.f (a0:Bool):Option (Int):=if a0=true then (some 1) else (some 0)
theorem Xag.calls (a0:Bool) (r:Int) (w:World) (H:Xag.f a0=some r) :
  Calls Tryz.prog 195 #[.bool a0] w fun e w'=>e = .returned (.int .i64 r)∧Drawn0 w w':=by
 unfold Xag.f at H
 go_enter Tryz.func195,Tryz.ntmps195
 by_cases c2:a0=true
 ·subst c2
  rw[if_pos rfl] at H
  obtain rfl:=sI H
  go_wp2
  go_ret
  exact⟨by first | rfl | (simp;done) | (simp[*];done),dX⟩
 replace c2:=Bool.eq_false_iff.mpr c2
 subst c2
 rw[if_neg nft] at H
 obtain rfl:=sI H
 go_wp2
 go_ret
 exact⟨by first | rfl | (simp;done) | (simp[*];done),dX⟩
def X4.f (l0_0:List Int) (a0_1:Int):Option (List Int × Int):=(some (([]:List Int):List Int)).bind fun y103=>(if y103.length+l0_0.length<17592186044416 then (some ((y103 ++ l0_0),a0_1)) else (none))
def X4.T1:Bool × List (List Nat × List Nat):=(true,[([],[]),([],[]),([1],[1]),([0,2],[0,2]),([],[]),([4],[4]),([3,5],[3,5]),([6,3,0,1,2,3,4,5,6],[6])])
def X4.B1:List Nat:=[0,0,2,7,0,16,63,127]
theorem X4.tab1:rtab .any (opsOf Tryz.f80 1)=X4.T1:=by kernel_rfl
theorem X4.bits1:waitsOk X4.T1.2 X4.B1=true:=by kernel_rfl
theorem X4.calls (A0_0:Option Addr) (c0_0:Nat) (l0_0:List Int) (a0_1:Int) (r1:List Int) (r2:Int) (w:World) (h0_0:Rw (Kd.int .i64) w A0_0 c0_0 l0_0) (h:X4.f l0_0 a0_1=some (r1,r2)) :
  Calls Tryz.prog 80 #[.agg #[.slice A0_0 l0_0.length c0_0,.int .i64 a0_1]] w fun e w'=>∃ v0_:Value,e = .returned (.agg #[v0_,.int .i64 r2])∧Kd.R (Kd.int .i64) 3 w' w.heap.size (fun _=>True) v0_ r1∧Below w.heap.size w w':=by
 have hu26:=Tryz.underlying26
 obtain⟨HR0_0,HC0_0⟩:=h0_0
 have HB:=aM (Below.refl w.heap.size w)
 have H:=h
 unfold X4.f at H
 clear h
 replace H:=sE H;obtain⟨y103,Ny103,H⟩:=H
 replace H:=ifP H;obtain⟨c2,H⟩:=H
 have LMc2:=aM c2
 clear c2
 obtain⟨y106,hy106⟩:∃ y_:List Int,y_=(y103 ++ l0_0):=⟨_,rfl⟩
 replace H:(some (y106,a0_1))=some (r1,r2):=yH H hy106
 have Ny106:=aM hy106
 clear hy106
 simp only[Option.some.injEq,Prod.mk.injEq] at H
 obtain⟨rfl,rfl⟩:=H
 go_enter Tryz.func80,Tryz.ntmps80
 try go_wp2_with (first | (refine boxE 1 #[.slice A0_0 l0_0.length c0_0,.int .i64 a0_1] 26 ?_;intro gbz1 hg wz1 hbox hb;have BKz1:=aM (hbox);have GWz1:=aG hg HB;replace HB:=aS HB hb;clear hb hbox hg) | (refine boxE 2 #[.slice none 0 0,.int .i64 0] 26 ?_;intro gbz2 hg wz2 hbox hb;have BKz2:=aM (hbox);have GWz2:=aG hg HB;have NBz1:=aL hg BKz1;have NBz2:=aR hg BKz1;replace BKz1:=aB BKz1 hb;replace HB:=aS HB hb;clear hb hbox hg))
 replace BKz1:=aM (blk_drew BKz1.out)
 replace BKz2:=aM (blk_drew BKz2.out)
 replace HB:=aM (below_drew1 HB.out)
 refine start_ (n:=8) (S:=fun w'=>w'.cell? ⟨gbz1,0,none⟩=some (.slice A0_0 l0_0.length c0_0)∧w'.cell? ⟨gbz1,1,none⟩=some (.int .i64 a0_1)) (ds:=[]) (bm 8 0) (by kernel_rfl) rfl (by kernel_rfl) ⟨cK BKz1.out 0,cK BKz1.out 1⟩ (fun hHeld => ?_);refine with_tabW X4.tab1 X4.bits1 (fun HT_ HW_ => ?_)
 generalize wz2.drew=wz3 at BKz1 BKz2 HB hHeld ⊢
 refine pZ 1 4 (bm 8 2) HT_.out ?_
 refine pZ 4 7 (bm 8 18) HT_.out ?_
 refine tZ 2 5 (bm 8 22) HT_.out HW_.out hHeld ?_
 refine tZ 5 8 (bm 8 54) HT_.out HW_.out hHeld ?_
 refine oZ 0 (some 3) (bm 8 55) HT_.out (fun K hK => ?_)
 refine Kd.R_lit_step (Kd.int .i64) _ 3 ?hg (N:=3) ?hd (xs:=([]:List Int)) (inner:=[]) (ok:=fun _=>True) (okp:=fun _=>True) ?hr ?hp (fun _ hk=>hk) trivial (Below.refl _ _) (Nat.le_refl _) (by simp) ?_;(case hd=>rfl);(case hg=>rfl);(case hr=>first | (go_simp;done) | (go_simp;rfl));(case hp=>exact(Reps.none _ _))
 intro vz1 wz4 hoz1 hb hg_ hnew_
 clear hg_ hnew_
 (first | rw[← Ny103.out] at hoz1 | (simp only[Int.reduceToNat] at hoz1;rw[← Ny103.out] at hoz1))
 have HOz1:=aM (Kd.R_lower hoz1 (below_size (hX HB.out)))
 replace BKz1:=aB BKz1 hb
 replace BKz2:=aB BKz2 hb
 replace HB:=aS HB hb
 clear hb hoz1
 refine hK.out _ _ ⟨cK BKz1.out 0,cK BKz1.out 1⟩ (fun hHeld => ?_)
 clear hK K
 refine nZ 3 ?_
 refine oZ 3 (some 6) (bm 8 63) HT_.out (fun K hK => ?_)
 refine Kd.R_append_rows_step (Kd.int .i64) (w0:=w) w.heap.size (by rfl) (.tmp 3) (.tmp 5) 24 3 (.int .i64 0) 8 rfl Tryz.underlying24 info3 rfl (by decide) (by omega) vz1 y103 l0_0 _ _ _ (fun _=>True) (fun _=>False) rfl rfl ?aO ?aR (fun _ _ h=>h) (fun _ h=>h.elim) ?aF ?aB ?aS ?aL ?_
 (case aR=>repeat (first | exact(Kd.C_below HR0_0.out HB.out) | (with_reducible refine Kd.C_alloc ?_ _) | (with_reducible refine Kd.C_drewN ?_ _) | (with_reducible refine Kd.C_drew ?_)))
 (case aB=>exact(hX HB.out))
 (case aF=>exact(fun _ _=>trivial))
 (case aO=>exact(rX HOz1.out))
 (case aS=>exact(below_size (hX HB.out)))
 (case aL=>have:=LMc2.out;omega)
 intro vz2 wz5 ho hb hg hat
 rw[← Ny106.out] at ho
 have HOz2:=aM (ho)
 replace BKz1:=aM (blk_grown (g:=gbz1) (o:=.cells #[.slice A0_0 l0_0.length c0_0,.int .i64 a0_1] 26 (0,0)) (bX BKz1.out) hg (Kd.R_ne HOz1.out BKz1.out (by decide)))
 replace BKz2:=aM (blk_grown (g:=gbz2) (o:=.cells #[.slice none 0 0,.int .i64 0] 26 (0,0)) (bX BKz2.out) hg (Kd.R_ne HOz1.out BKz2.out (by decide)))
 replace HB:=aM (hb)
 clear HOz1
 clear ho hb hg hat
 obtain⟨Aoz1,coz1,eoz1⟩:=Kd.R_slice HOz2.out
 (first | subst eoz1 | (injection eoz1 with f1_ f2_ f3_;have fz1:=f1_.symm;have fz2:=f3_.symm;clear f1_ f2_ f3_;subst fz1;subst fz2))
 refine hK.out _ _ ⟨cK BKz1.out 0,cK BKz1.out 1⟩ (fun hHeld => ?_)
 clear hK K
 refine nZ 6 ?_
 refine pZ 6 9 (bm 8 127) HT_.out ?_
 refine oZ 7 none (bm 8 255) HT_.out (fun K hK => ?_)
 have hsz1:wz5.cell? ⟨gbz2,0,none⟩=some (.slice none 0 0):=(blk_cell BKz2.out 0).trans rfl
 have hfsz1:=blk_frozen BKz2.out 0
 have hnsz1:=NBz1.out
 have hmsz1:=NBz2.out
 have hsz2:wz5.cell? ⟨gbz2,1,none⟩=some (.int .i64 0):=(blk_cell BKz2.out 1).trans rfl
 have hfsz2:=blk_frozen BKz2.out 1
 have hnsz2:=NBz1.out
 have hmsz2:=NBz2.out
 refine skip_ (w1:=?_) (by rfl) rfl ?_ ?_
 rotate_left
 ·go_simp
  rfl
 refine hK.out _ _ ⟨(fA NBz1.out hHeld.1),(fA NBz1.out hHeld.2)⟩ (fun hHeld => ?_)
 clear hK K
 refine done_ (done_of HT_.out (by kernel_rfl)) ?_
 try go_wp2
 refine bodyPost_ret (results_cell_row rfl _ _ gbz2 26 #[.slice Aoz1 y106.length coz1,.int .i64 a0_1] (0,0) _ rfl (bP BKz2.out) Tryz.underlying26 rfl (by kernel_rfl)) rfl ?_
 exact⟨_,rE,(Kd.R_mono (rF HOz2.out BKz2.out) (fun _ hk=>trivial)),(hX HB.out)⟩
def Xau.f (l0:List (S78)):Option ((List (S78)) × Int × Bool × (List (S152)) × (List (S154))):=(some (([]:List (S78)):List (S78))).bind fun y102=>(if y102.length+l0.length<5864062014805 then (some ((y102 ++ l0),0,false,([]:List (S152)),([]:List (S154)))) else (none))
theorem Xau.calls (A0:Option Addr) (c0:Nat) (l0:List (S78)) (r1:List (S78)) (r2:Int) (r3:Bool) (r4:List (S152)) (r5:List (S154)) (w:World) (h0:Rw k78 w A0 c0 l0) (h:Xau.f l0=some (r1,r2,r3,r4,r5)) :
  Calls Tryz.prog 81 #[.slice A0 l0.length c0] w fun e w'=>∃ v0_ v3_ v4_:Value,e = .returned (.agg #[v0_,.int .i64 r2,.bool r3,v3_,v4_])∧Kd.R k78 78 w' w.heap.size (fun _=>True) v0_ r1∧Kd.R k152 152 w' w.heap.size (fun _=>True) v3_ r4∧Kd.R k154 154 w' w.heap.size (fun _=>True) v4_ r5∧Below w.heap.size w w':=by
 have hu108:=Tryz.underlying108
 obtain⟨HR0,HC0⟩:=h0
 have HB:=aM (Below.refl w.heap.size w)
 have H:=h
 unfold Xau.f at H
 clear h
 replace H:=sE H;obtain⟨y102,Ny102,H⟩:=H
 replace H:=ifP H;obtain⟨c2,H⟩:=H
 have LMc2:=aM c2
 clear c2
 obtain⟨y105,hy105⟩:∃ y_:List (S78),y_=(y102 ++ l0):=⟨_,rfl⟩
 replace H:(some (y105,0,false,([]:List (S152)),([]:List (S154))))=some (r1,r2,r3,r4,r5):=yH H hy105
 have Ny105:=aM hy105
 clear hy105
 simp only[Option.some.injEq,Prod.mk.injEq] at H
 obtain⟨rfl,rfl,rfl,rfl,rfl⟩:=H
 go_enter Tryz.func81,Tryz.ntmps81
 go_wp2_with (first | (refine boxE 2 #[.slice none 0 0,.int .i64 0,.bool false,.slice none 0 0,.slice none 0 0] 108 ?_;intro gbz1 hg wz1 hbox hb;have BKz1:=aM (hbox);have GWz1:=aG hg HB;replace HB:=aS HB hb;clear hb hbox hg) | ((with_reducible refine gate_dst (N:=3) rfl ?_);refine Kd.R_lit k78 _ 78 ?hg (N:=3) ?hd (xs:=([]:List (S78))) (inner:=[]) (ok:=fun _=>True) (okp:=fun _=>True) ?hr ?hp (fun _ hk=>hk) trivial (Below.refl _ _) (Nat.le_refl _) (by simp) ?_;(case hd=>rfl);(case hg=>rfl);(case hr=>first | (go_simp;done) | (go_simp;rfl));(case hp=>exact(Reps.none _ _));intro vz1 wz2 hoz1 hb hg_ hnew_;clear hg_ hnew_;(first | rw[← Ny102.out] at hoz1 | (simp only[Int.reduceToNat] at hoz1;rw[← Ny102.out] at hoz1));have HOz1:=aM (Kd.R_lower hoz1 (below_size (hX HB.out)));replace BKz1:=aB BKz1 hb;replace HB:=aS HB hb;clear hb hoz1) | ((with_reducible refine gate_builtin (b:=.append) (xs:=#[.tmp 3,.tmp 4]) rfl ?_);at_builtin;refine Kd.R_append_rows k78 (w0:=w) w.heap.size rfl (.tmp 3) (.tmp 4) 103 78 (.agg #[(.int .i64 0),(.int .i64 0),(.int .i64 0)]) 24 rfl Tryz.underlying103 info78 rfl (by decide) (by omega) vz1 y102 l0 _ _ _ (fun _=>True) (fun _=>False) rfl rfl ?aO ?aR (fun _ _ h=>h) (fun _ h=>h.elim) ?aF ?aB ?aS ?aL ?_;(case aR=>repeat (first | exact(Kd.C_below HR0.out HB.out) | (with_reducible refine Kd.C_alloc ?_ _) | (with_reducible refine Kd.C_drewN ?_ _) | (with_reducible refine Kd.C_drew ?_)));(case aB=>exact(hX HB.out));(case aF=>exact(fun _ _=>trivial));(case aO=>exact(rX HOz1.out));(case aS=>exact(below_size (hX HB.out)));(case aL=>have:=LMc2.out;omega);intro vz2 wz3 ho hb hg hat;rw[← Ny105.out] at ho;have HOz2:=aM (ho);replace BKz1:=aM (blk_grown (g:=gbz1) (o:=.cells #[.slice none 0 0,.int .i64 0,.bool false,.slice none 0 0,.slice none 0 0] 108 (0,0)) (bX BKz1.out) hg (Kd.R_ne HOz1.out BKz1.out (by decide)));replace HB:=aM (hb);clear HOz1;clear ho hb hg hat;obtain⟨Aoz1,coz1,eoz1⟩:=Kd.R_slice HOz2.out;subst eoz1;have hczz1:=cZ5 BKz1.out))
 refine bodyPost_ret (results_cell_row rfl _ _ gbz1 108 #[.slice Aoz1 y105.length coz1,.int .i64 0,.bool false,.slice none 0 0,.slice none 0 0] (0,0) _ rfl (bP BKz1.out) Tryz.underlying108 rfl (by kernel_rfl)) rfl ?_
 exact⟨_,(Value.slice none 0 0),(Value.slice none 0 0),rE,(Kd.R_mono (rF HOz2.out BKz1.out) (fun _ hk=>trivial)),(by first | exact Kd.R_nil _ _ _ _ _ | exact Kd.S_nil _ _ _ _ _ | exact Kd.V_nil _ _ _ _ _ | exact Kd.N_nil _ _ _ _ _ | exact Kd.Q_nil _ _ _ _ _),(by first | exact Kd.R_nil _ _ _ _ _ | exact Kd.S_nil _ _ _ _ _ | exact Kd.V_nil _ _ _ _ _ | exact Kd.N_nil _ _ _ _ _ | exact Kd.Q_nil _ _ _ _ _),(hX HB.out)⟩
def Xap.f (a0:Int):Option (Bool):=if a0=1 then (some true) else (if a0=2 then (some true) else (if a0=5 then (some true) else (some (a0 == 10))))
theorem Xap.calls (a0:Int) (r:Bool) (w:World) (H:Xap.f a0=some r) :
  Calls Tryz.prog 176 #[.int .i64 a0] w fun e w'=>e = .returned (.bool r)∧Drawn0 w w':=by
 unfold Xap.f at H
 go_enter Tryz.func176,Tryz.ntmps176
 revert H;refine eP ?_ ?_<;>intro c2b0 c2b1 H
 ·obtain rfl:=sI H
  go_wp2
  go_ret
  exact⟨by first | rfl | (simp;done) | (simp[*];done),dX⟩
 revert H;refine eP ?_ ?_<;>intro c3b0 c3b1 H
 ·obtain rfl:=sI H
  go_wp2
  go_ret
  exact⟨by first | rfl | (simp;done) | (simp[*];done),dX⟩
 revert H;refine eN ?_ ?_<;>intro c4b0 c4b1 H
 ·obtain rfl:=sI H
  go_wp2
  go_ret
  exact⟨by first | rfl | (simp;done) | (simp[*];done),dX⟩
 obtain rfl:=sI H
 go_wp2
 go_ret
 exact⟨by first | rfl | (simp;done) | (simp[*];done),dX⟩
def X5.l0:Nat→Int→Int→List (S51)→List (S58)→List (S108)→Int→List (S80)→List Int→List Int→Int→Option (Int)
 | 0,_,_,_,_,_,_,_,_,_,_=>none
 | k+1,x1,x5,x102000,x102001,x102002,x102003,x102004,x102005,x102006,x102007=>if x5 ≥ 0 then (if 0≤x5 then (if x5<(x102004.length:Int) then (if ((rd_T80 x102004 x5).f0)=x1 then (some x5) else (X5.l0 k x1 (wrap64 (x5 - 1)) x102000 x102001 x102002 x102003 x102004 x102005 x102006 x102007)) else (none)) else (none)) else (some (-1))
def X5.f (k:Nat) (l0_0:List (S51)) (l0_1:List (S58)) (l0_2:List (S108)) (a0_3:Int) (l0_4:List (S80)) (l0_5:List Int) (l0_6:List Int) (a0_7:Int) (a1:Int):Option (Int):=X5.l0 k a1 (wrap64 ((l0_4.length:Int) - 1)) l0_0 l0_1 l0_2 a0_3 l0_4 l0_5 l0_6 a0_7
theorem X5.calls (k:Nat) (A0_0:Option Addr) (c0_0:Nat) (l0_0:List (S51)) (A0_1:Option Addr) (c0_1:Nat) (l0_1:List (S58)) (A0_2:Option Addr) (c0_2:Nat) (l0_2:List (S108)) (a0_3:Int) (A0_4:Option Addr) (c0_4:Nat) (l0_4:List (S80)) (A0_5:Option Addr) (c0_5:Nat) (l0_5:List Int) (A0_6:Option Addr) (c0_6:Nat) (l0_6:List Int) (a0_7:Int) (a1:Int) (r:Int) (w:World) (h0_0:Rw k51 w A0_0 c0_0 l0_0) (h0_1:Rw k58 w A0_1 c0_1 l0_1) (h0_2:Rw k108 w A0_2 c0_2 l0_2) (h0_4:Rw k80 w A0_4 c0_4 l0_4) (h0_5:Rw (Kd.int .i64) w A0_5 c0_5 l0_5) (h0_6:Rw (Kd.int .i64) w A0_6 c0_6 l0_6) (H:X5.f k l0_0 l0_1 l0_2 a0_3 l0_4 l0_5 l0_6 a0_7 a1=some r) :
  Calls Tryz.prog 196 #[.agg #[.slice A0_0 l0_0.length c0_0,.slice A0_1 l0_1.length c0_1,.slice A0_2 l0_2.length c0_2,.int .i64 a0_3,.slice A0_4 l0_4.length c0_4,.slice A0_5 l0_5.length c0_5,.slice A0_6 l0_6.length c0_6,.int .i64 a0_7],.int .i64 a1] w fun e w'=>e = .returned (.int .i64 r)∧Below w.heap.size w w':=by
 have hu37:=Tryz.underlying37
 obtain⟨HR0_0,HC0_0⟩:=h0_0
 obtain⟨HR0_1,HC0_1⟩:=h0_1
 obtain⟨HR0_2,HC0_2⟩:=h0_2
 obtain⟨HR0_4,HC0_4⟩:=h0_4
 obtain⟨HR0_5,HC0_5⟩:=h0_5
 obtain⟨HR0_6,HC0_6⟩:=h0_6
 have HB:=aM (Below.refl w.heap.size w)
 unfold X5.f at H
 have H':=aM H
 clear H
 go_enter Tryz.func196,Tryz.ntmps196
 go_wp2_with (refine boxE 2 #[.slice A0_0 l0_0.length c0_0,.slice A0_1 l0_1.length c0_1,.slice A0_2 l0_2.length c0_2,.int .i64 a0_3,.slice A0_4 l0_4.length c0_4,.slice A0_5 l0_5.length c0_5,.slice A0_6 l0_6.length c0_6,.int .i64 a0_7] 37 ?_;intro gbz1 hg wz1 hbox hb;have BKz1:=aM (hbox);have GWz1:=aG hg HB;replace HB:=aS HB hb;clear hb hbox hg;have hczz1:=cZ8 BKz1.out)
 go_loopg [5] k (fun kq v5 w'=>∃ (x5_1:Int),v5 = .int .i64 x5_1∧Aside0 (X5.l0 kq a1 x5_1 l0_0 l0_1 l0_2 a0_3 l0_4 l0_5 l0_6 a0_7=some r)∧Aside0 (kq≤k)∧Aside0 (w'.heap[gbz1]? = some (.cells #[(.slice A0_0 l0_0.length c0_0),(.slice A0_1 l0_1.length c0_1),(.slice A0_2 l0_2.length c0_2),.int .i64 a0_3,(.slice A0_4 l0_4.length c0_4),(.slice A0_5 l0_5.length c0_5),(.slice A0_6 l0_6.length c0_6),.int .i64 a0_7] 37 (0,0)))∧Aside0 (Below w.heap.size w w'))
 case atStart=>exact⟨(wrap64 ((l0_4.length:Int) - 1)),rS,H',⟨Nat.le_refl _⟩,⟨(bX BKz1.out)⟩,⟨(hX HB.out)⟩⟩
 case round =>
  clear H'
  try clear hczz1
  obtain⟨x5_1,rfl,HA,HKy1,BKz1,HB⟩:=hrel
  cases gk with
  | zero=>exact absurd HA.out (by simp[X5.l0])
  | succ k1 =>
   have H:=HA.out
   clear HA
   simp only[X5.l0] at H
   revert H;refine iN ?_ ?_<;>intro c5b0 H
   ·obtain rfl:=sI H
    exact fS
   replace H:=ifQ H;obtain⟨c6b0,H⟩:=H
   replace H:=ifQ H;obtain⟨c7b0,H⟩:=H
   revert H;refine eP ?_ ?_<;>intro c8b0 c8b1 H
   ·obtain rfl:=sI H
    have hczx1:=cZ8 BKz1.out
    obtain⟨adx1,Ax1,cx1,ex1,px1,qx1,hxx1,HCx1,HRx1⟩:=at_T80c HR0_4 HB x5_1
    cases ex1
    exact fS
   have H':=aM H
   clear H
   have hczx1:=cZ8 BKz1.out
   obtain⟨adx1,Ax1,cx1,ex1,px1,qx1,hxx1,HCx1,HRx1⟩:=at_T80c HR0_4 HB x5_1
   cases ex1
   go_wp2
   go_roundg k1
   case measure=>have:=HKy1.out;omega
   case rel=>exact⟨(wrap64 (x5_1 - 1)),rS,H',⟨by have:=HKy1.out;omega⟩,⟨(bX BKz1.out)⟩,⟨(hX HB.out)⟩⟩
def XL.l0:Nat→List Int→List Int→Int→Option (Bool)
 | 0,_,_,_=>none
 | k+1,x0,x1,x5=>if x5<(x0.length:Int) then (if 0≤x5 then (if x5<(x1.length:Int) then (if (rd x0 x5)=(rd x1 x5) then (XL.l0 k x0 x1 (wrap64 (x5+1))) else (none)) else (none)) else (none)) else (some true)
def XL.f (k:Nat) (l0:List Int) (l1:List Int):Option (Bool):=if (l0.length:Int)=(l1.length:Int) then (XL.l0 k l0 l1 0) else (none)
theorem XL.calls (k:Nat) (A0:Option Addr) (c0:Nat) (l0:List Int) (A1:Option Addr) (c1:Nat) (l1:List Int) (r:Bool) (w:World) (h0:Rw (Kd.int .i64) w A0 c0 l0) (h1:Rw (Kd.int .i64) w A1 c1 l1) (H:XL.f k l0 l1=some r) :
  Calls Tryz.prog 16 #[.slice A0 l0.length c0,.slice A1 l1.length c1] w fun e w'=>e = .returned (.bool r)∧Drawn0 w w':=by
 obtain⟨HR0,HC0⟩:=h0
 obtain⟨HR1,HC1⟩:=h1
 unfold XL.f at H
 replace H:=ifP H;obtain⟨c3,H⟩:=H
 obtain⟨c3b0,c3b1⟩:=eqT c3
 have c3b2:(l0.length == l1.length)=true:=by first | simpa using c3 | (simp at c3 ⊢;omega)
 clear c3
 have H':=aM H
 clear H
 go_enter Tryz.func16,Tryz.ntmps16
 go_wp2
 repeat (go_quiet (fail);try go_wp2)
 go_loopg [5] k (fun kq v5 w'=>∃ (x5_1:Int),v5 = .int .i64 x5_1∧Aside0 (XL.l0 kq l0 l1 x5_1=some r)∧Aside0 (kq≤k)∧Drawn0 w w')
 case atStart=>exact⟨(0),rS,H',⟨Nat.le_refl _⟩,dX⟩
 case round =>
  clear H'
  try clear c3
  try clear c3b0
  try clear c3b1
  try clear c3b2
  obtain⟨x5_1,rfl,HA,HKy1,⟨my1,rfl⟩⟩:=hrel
  cases gk with
  | zero=>exact absurd HA.out (by simp[XL.l0])
  | succ k1 =>
   have H:=HA.out
   clear HA
   simp only[XL.l0] at H
   revert H;refine iN ?_ ?_<;>intro c4b0 H
   ·obtain rfl:=sI H
    go_wp2
    repeat (go_quiet (fail);try go_wp2)
    go_ret
    exact⟨by first | rfl | (simp;done) | (simp[*];done),dX⟩
   replace H:=ifQ H;obtain⟨c5b0,H⟩:=H
   replace H:=ifQ H;obtain⟨c6b0,H⟩:=H
   replace H:=ifP H;obtain⟨c7,H⟩:=H
   obtain⟨c7b0,c7b1⟩:=eqT c7
   clear c7
   have H':=aM H
   clear H
   have px1:0≤(x5_1:Int):=odA
   have qx1:x5_1<(l0.length:Int):=odA
   obtain⟨adx1,ex1,hxx1⟩:=Kd.at_int HR0.out x5_1 px1 qx1
   cases ex1
   replace px1:=eq_true px1
   replace qx1:=eq_true qx1
   have px2:0≤(x5_1:Int):=odA
   have qx2:x5_1<(l1.length:Int):=odA
   obtain⟨adx2,ex2,hxx2⟩:=Kd.at_int HR1.out x5_1 px2 qx2
   cases ex2
   replace px2:=eq_true px2
   replace qx2:=eq_true qx2
   go_wp2
   repeat (go_quiet (fail);try go_wp2)
   go_roundg k1
   case measure=>have:=HKy1.out;omega
   case rel=>exact⟨(wrap64 (x5_1+1)),rS,H',⟨by have:=HKy1.out;omega⟩,dX⟩
end Go.Proofs.YthejoblnfpaojaaGreat.P
namespace Go.Proofs.YthejoblnfpaojaaGreat.P
open Go.Proofs.YthejoblnfpaojaaGreatZ Go.RowKit Go.Proofs.YthejoblnfpaojaaGreatW.PrintWords Go.Proofs.YthejoblnfpaojaaGreatW.PrintLast Go.Proofs.YthejoblnfpaojaaGreatW.PrintMore
attribute [local go_sem] max2_int min2_int max_two min_two max_three min_three max_four min_four   -- for this text's walks alone
attribute [local go_sem high] eqA63
def XV.l0:Nat→List (S63)→List (S63)→Int→Option (Bool)
 | 0,_,_,_=>none
 | k+1,x0,x1,x5=>if x5<(x0.length:Int) then (if 0≤x5 then (if x5<(x1.length:Int) then (if (!(((rd_T63 x0 x5).f0) == ((rd_T63 x1 x5).f0)) || (!(((rd_T63 x0 x5).f1) == ((rd_T63 x1 x5).f1)) || (!(((rd_T63 x0 x5).f2) == ((rd_T63 x1 x5).f2)))))=true then (none) else (XV.l0 k x0 x1 (wrap64 (x5+1)))) else (none)) else (none)) else (some true)
def XV.f (k:Nat) (l0:List (S63)) (l1:List (S63)):Option (Bool):=if (l0.length:Int)=(l1.length:Int) then (XV.l0 k l0 l1 0) else (none)
theorem XV.calls (k:Nat) (A0:Option Addr) (c0:Nat) (l0:List (S63)) (A1:Option Addr) (c1:Nat) (l1:List (S63)) (r:Bool) (w:World) (h0:Rw k63 w A0 c0 l0) (h1:Rw k63 w A1 c1 l1) (H:XV.f k l0 l1=some r) :
  Calls Tryz.prog 149 #[.slice A0 l0.length c0,.slice A1 l1.length c1] w fun e w'=>e = .returned (.bool r)∧Drawn0 w w':=by
 have hu63:=Tryz.underlying63
 obtain⟨HR0,HC0⟩:=h0
 obtain⟨HR1,HC1⟩:=h1
 unfold XV.f at H
 replace H:=ifP H;obtain⟨c3,H⟩:=H
 obtain⟨c3b0,c3b1⟩:=eqT c3
 have c3b2:(l0.length == l1.length)=true:=by first | simpa using c3 | (simp at c3 ⊢;omega)
 clear c3
 have H':=aM H
 clear H
 go_enter Tryz.func149,Tryz.ntmps149
 go_wp2
 repeat (go_quiet (fail);try go_wp2)
 go_loopg [5] k (fun kq v5 w'=>∃ (x5_1:Int),v5 = .int .i64 x5_1∧Aside0 (XV.l0 kq l0 l1 x5_1=some r)∧Aside0 (kq≤k)∧Drawn0 w w')
 case atStart=>exact⟨(0),rS,H',⟨Nat.le_refl _⟩,dX⟩
 case round =>
  clear H'
  try clear c3
  try clear c3b0
  try clear c3b1
  try clear c3b2
  obtain⟨x5_1,rfl,HA,HKy1,⟨my1,rfl⟩⟩:=hrel
  cases gk with
  | zero=>exact absurd HA.out (by simp[XV.l0])
  | succ k1 =>
   have H:=HA.out
   clear HA
   simp only[XV.l0] at H
   revert H;refine iN ?_ ?_<;>intro c4b0 H
   ·obtain rfl:=sI H
    go_wp2
    repeat (go_quiet (fail);try go_wp2)
    go_ret
    exact⟨by first | rfl | (simp;done) | (simp[*];done),dX⟩
   replace H:=ifQ H;obtain⟨c5b0,H⟩:=H
   replace H:=ifQ H;obtain⟨c6b0,H⟩:=H
   replace H:=ifN H;obtain⟨c7,H⟩:=H
   have c7b0:(!(((rd_T63 l0 x5_1).f0) == ((rd_T63 l1 x5_1).f0)) || (!(((rd_T63 l0 x5_1).f1) == ((rd_T63 l1 x5_1).f1)) || (!(((rd_T63 l0 x5_1).f2) == ((rd_T63 l1 x5_1).f2)))))=false:=by simpa using c7
   clear c7
   have H':=aM H
   clear H
   have px1:0≤(x5_1:Int):=odA
   have qx1:x5_1<(l0.length:Int):=odA
   obtain⟨adx1,ex1,hxx1,hxx2,hxx3⟩:=at_T63 HR0.out x5_1 px1 qx1
   cases ex1
   replace px1:=eq_true px1
   replace qx1:=eq_true qx1
   have px2:0≤(x5_1:Int):=odA
   have qx2:x5_1<(l1.length:Int):=odA
   obtain⟨adx2,ex2,hxx4,hxx5,hxx6⟩:=at_T63 HR1.out x5_1 px2 qx2
   cases ex2
   replace px2:=eq_true px2
   replace qx2:=eq_true qx2
   go_wp2
   repeat (go_quiet (fail);try go_wp2)
   go_roundg k1
   case measure=>have:=HKy1.out;omega
   case rel=>exact⟨(wrap64 (x5_1+1)),rS,H',⟨by have:=HKy1.out;omega⟩,dX⟩
end Go.Proofs.YthejoblnfpaojaaGreat.P
namespace Go.Proofs.YthejoblnfpaojaaGreat.P
open Go.Proofs.YthejoblnfpaojaaGreatZ Go.RowKit Go.Proofs.YthejoblnfpaojaaGreatW.PrintWords Go.Proofs.YthejoblnfpaojaaGreatW.PrintLast Go.Proofs.YthejoblnfpaojaaGreatW.PrintMore
attribute [local go_sem] max2_int min2_int max_two min_two max_three min_three max_four min_four   -- for this text's walks alone
mutual
def XA.l0:Nat→List Int→List Int→Int→Option (Bool)
 | 0,_,_,_=>none
 | k+1,x0,x1,x5=>if x5<(x0.length:Int) then (XA.j1 k x0 x1 x5 (decide (x5<(x1.length:Int)))) else (XA.j1 k x0 x1 x5 false)
def XA.j1:Nat→List Int→List Int→Int→Bool→Option (Bool)
 | 0,_,_,_,_=>none
 | k+1,x0,x1,x5,x15=>if x15=true then (if 0≤x5 then (if x5<(x0.length:Int) then (if x5<(x1.length:Int) then (if (rd x0 x5)=(rd x1 x5) then (XA.l0 k x0 x1 (wrap64 (x5+1))) else (some false)) else (none)) else (none)) else (none)) else (some ((x0.length:Int) == (x1.length:Int)))
end
def XA.f (k:Nat) (l0:List Int) (l1:List Int):Option (Bool):=XA.l0 k l0 l1 0
theorem XA.calls (k:Nat) (A0:Option Addr) (c0:Nat) (l0:List Int) (A1:Option Addr) (c1:Nat) (l1:List Int) (r:Bool) (w:World) (h0:Rw (Kd.int .i64) w A0 c0 l0) (h1:Rw (Kd.int .i64) w A1 c1 l1) (H:XA.f k l0 l1=some r) :
  Calls Tryz.prog 140 #[.slice A0 l0.length c0,.slice A1 l1.length c1] w fun e w'=>e = .returned (.bool r)∧Drawn0 w w':=by
 obtain⟨HR0,HC0⟩:=h0
 obtain⟨HR1,HC1⟩:=h1
 unfold XA.f at H
 have H':=aM H
 clear H
 go_enter Tryz.func140,Tryz.ntmps140
 go_wp2
 repeat (go_quiet (fail);try go_wp2)
 go_loopg [5] k (fun kq v5 w'=>∃ (x5_1:Int),v5 = .int .i64 x5_1∧Aside0 (XA.l0 kq l0 l1 x5_1=some r)∧Aside0 (kq≤k)∧Drawn0 w w')
 case atStart=>exact⟨(0),rS,H',⟨Nat.le_refl _⟩,dX⟩
 case round =>
  clear H'
  obtain⟨x5_1,rfl,HA,HKy1,⟨my1,rfl⟩⟩:=hrel
  cases gk with
  | zero=>exact absurd HA.out (by simp[XA.l0])
  | succ k1 =>
   have H:=HA.out
   clear HA
   simp only[XA.l0] at H
   have HC3:=aM H
   clear H
   go_upto_region 2 with(fail)
   repeat (go_quiet (fail);go_upto_region 2 with(fail))
   go_cut [15] (fun vx1 wc=>∃ (kq:Nat) (x15_2:Bool),vx1 = .bool x15_2∧Aside0 (XA.j1 kq l0 l1 x5_1 x15_2=some r)∧Aside0 (kq≤k1)∧Drawn0 w wc)
   case first =>
    have H:=HC3.out
    clear HC3
    revert H;refine iN ?_ ?_<;>intro c4b0 H
    ·(first | rw[c4b0] | (simp only[i64_w,i32_w];rw[c4b0]) | skip)
     have H':=aM H
     clear H
     go_wp2
     repeat (go_quiet (fail);try go_wp2)
     go_meet
     case rel=>exact⟨_,(false),rS,H',⟨by have:=HKy1.out;first | omega | exact Nat.le_refl _⟩,dX⟩
    (first | rw[c4b0] | (simp only[i64_w,i32_w];rw[c4b0]) | skip)
    have H':=aM H
    clear H
    go_wp2
    repeat (go_quiet (fail);try go_wp2)
    go_meet
    case rel=>exact⟨_,(decide (x5_1<(l1.length:Int))),rS,H',⟨by have:=HKy1.out;first | omega | exact Nat.le_refl _⟩,dX⟩
   case rest =>
    clear HC3
    obtain⟨kq,x15_2,rfl,HA,HJw1,⟨mcw1,rfl⟩⟩:=hcut
    cases kq with
    | zero=>exact absurd HA.out (by simp[XA.j1])
    | succ kj2 =>
     have H:=HA.out
     clear HA
     simp only[XA.j1] at H
     cases x15_2
     case false =>
      rw[if_neg nft] at H
      obtain rfl:=sI H
      go_wp2
      repeat (go_quiet (fail);try go_wp2)
      go_ret
      exact⟨by first | rfl | (simp;done) | (simp[*];done),dX⟩
     rw[if_pos rfl] at H
     replace H:=ifQ H;obtain⟨c6b0,H⟩:=H
     replace H:=ifQ H;obtain⟨c7b0,H⟩:=H
     replace H:=ifQ H;obtain⟨c8b0,H⟩:=H
     revert H;refine eN ?_ ?_<;>intro c9b0 c9b1 H
     ·obtain rfl:=sI H
      have pv1:0≤(x5_1:Int):=odA
      have qv1:x5_1<(l0.length:Int):=odA
      obtain⟨adv1,ev1,hxv1⟩:=Kd.at_int HR0.out x5_1 pv1 qv1
      cases ev1
      replace pv1:=eq_true pv1
      replace qv1:=eq_true qv1
      have pv2:0≤(x5_1:Int):=odA
      have qv2:x5_1<(l1.length:Int):=odA
      obtain⟨adv2,ev2,hxv2⟩:=Kd.at_int HR1.out x5_1 pv2 qv2
      cases ev2
      replace pv2:=eq_true pv2
      replace qv2:=eq_true qv2
      go_wp2
      repeat (go_quiet (fail);try go_wp2)
      go_ret
      exact⟨by first | rfl | (simp;done) | (simp[*];done),dX⟩
     have H':=aM H
     clear H
     have pv1:0≤(x5_1:Int):=odA
     have qv1:x5_1<(l0.length:Int):=odA
     obtain⟨adv1,ev1,hxv1⟩:=Kd.at_int HR0.out x5_1 pv1 qv1
     cases ev1
     replace pv1:=eq_true pv1
     replace qv1:=eq_true qv1
     have pv2:0≤(x5_1:Int):=odA
     have qv2:x5_1<(l1.length:Int):=odA
     obtain⟨adv2,ev2,hxv2⟩:=Kd.at_int HR1.out x5_1 pv2 qv2
     cases ev2
     replace pv2:=eq_true pv2
     replace qv2:=eq_true qv2
     go_wp2
     repeat (go_quiet (fail);try go_wp2)
     go_roundg kj2
     case measure=>have:=HKy1.out;have:=HJw1.out;omega
     case rel=>exact⟨(wrap64 (x5_1+1)),rS,H',⟨by have:=HKy1.out;have:=HJw1.out;omega⟩,dX⟩
end Go.Proofs.YthejoblnfpaojaaGreat.P
