/- A part of the proof of the law FnStarts: texts of this seat, merged (words, printed functions of the program, plain lemmas). Conditions: none of its own. -/
import Derived.Test.YthejoblnfpaojaaGreatPkFnStarts18
import Derived.Test.YthejoblnfpaojaaGreatPkFnStarts23
import Derived.Test.YthejoblnfpaojaaGreatPkFnStarts25
import Derived.Test.YthejoblnfpaojaaGreatPkFnStarts26
set_option linter.unusedSimpArgs false
set_option linter.unusedVariables false
set_option maxHeartbeats 8000000
set_option maxRecDepth 100000
namespace Go.Proofs.YthejoblnfpaojaaGreat.P
open Go.Proofs.YthejoblnfpaojaaGreatZ Go.RowKit Go.Proofs.YthejoblnfpaojaaGreatW.PrintWords Go.Proofs.YthejoblnfpaojaaGreatW.PrintLast Go.Proofs.YthejoblnfpaojaaGreatW.PrintMore
attribute [local go_sem] max2_int min2_int max_two min_two max_three min_three max_four min_four   -- for this text's walks alone
def Xai.f (k:Nat) (l0:List (S58))  : Option (Bool):=(XJ.f k l0).bind fun t101=>(some (decide (t101 ≥ 0)))
theorem Xai.calls (k:Nat) (A0:Option Addr) (c0:Nat) (l0:List (S58)) (r:Bool) (w:World) (h0:Rw k58 w A0 c0 l0) (H:Xai.f k l0=some r) :
  Calls Tryz.prog 100 #[.slice A0 l0.length c0,.func (.func 101) #[] #[]] w fun e w'=>e = .returned (.bool r)∧Below w.heap.size w w':=by
 obtain⟨HR0,HC0⟩:=h0
 have HB:=aM (Below.refl w.heap.size w)
 unfold Xai.f at H
 replace H:=bE H;obtain⟨t101,A3,H⟩:=H
 obtain rfl:=sI H
 go_enter Tryz.func100,Tryz.ntmps100
 go_wp2_with (refine gB 168 7 Tryz.func168 (XJ.calls _ _ _ _ _ _ (rw2 (cX HR0.out) HC0.out) A3.out) ?_;intro wz1 hb;replace HB:=aS HB hb;clear hb)
 go_ret
 exact⟨rE,(hX HB.out)⟩
def Xan.f (k:Nat) (l0:List (S78))  : Option (Bool):=(XR.f k l0).bind fun t101=>(some (decide (t101 ≥ 0)))
theorem Xan.calls (k:Nat) (A0:Option Addr) (c0:Nat) (l0:List (S78)) (r:Bool) (w:World) (h0:Rw k78 w A0 c0 l0) (H:Xan.f k l0=some r) :
  Calls Tryz.prog 154 #[.slice A0 l0.length c0,.func (.func 155) #[] #[]] w fun e w'=>e = .returned (.bool r)∧Below w.heap.size w w':=by
 obtain⟨HR0,HC0⟩:=h0
 have HB:=aM (Below.refl w.heap.size w)
 unfold Xan.f at H
 replace H:=bE H;obtain⟨t101,A3,H⟩:=H
 obtain rfl:=sI H
 go_enter Tryz.func154,Tryz.ntmps154
 go_wp2_with (refine gB 200 7 Tryz.func200 (XR.calls _ _ _ _ _ _ (rw2 (cX HR0.out) HC0.out) A3.out) ?_;intro wz1 hb;replace HB:=aS HB hb;clear hb)
 go_ret
 exact⟨rE,(hX HB.out)⟩
def XG.l0:Nat→Int→List Int→Int→List (S51)→Option ((List (S51)) × (List (S58)) × Bool)
 | 0,_,_,_,_=>none
 | k+1,x1,x7,x8,x104000=>if x8<(x7.length:Int) then (if 0≤x8 then (if x104000.length<5864062014805 then (XG.l0 k x1 x7 (wrap64 (x8+1)) (x104000 ++ [(⟨rd x7 x8,0,0⟩:S51)])) else (none)) else (none)) else ((Xb.f x1 1 4).bind fun t111=>(if t111=true then (if 0≤x1 then (if (x1:Int).toNat≤3909374676536 then ((some (List.replicate (x1:Int).toNat z58:List (S58))).bind fun y112=>((Xm.f k x104000 y112).bind fun t115=>(if t115=true then (some (x104000,y112,true)) else (some (([]:List (S51)),([]:List (S58)),false))))) else (none)) else (none)) else ((Xm.f k x104000 ([]:List (S58))).bind fun t116=>(if t116=true then (some (x104000,([]:List (S58)),true)) else (some (([]:List (S51)),([]:List (S58)),false))))))
def XG.f (k:Nat) (l0_0:List Int) (a0_1:Int) (a1:Int):Option ((List (S51)) × (List (S58)) × Bool):=(Xl.f k l0_0 a0_1).bind fun t104=>(XG.l0 k a1 t104 0 ([]:List (S51)))
def XG.T6:Bool × List (List Nat × List Nat):=(true,[([],[]),([0],[0]),([],[]),([],[]),([2,3],[2,3]),([4],[4]),([5],[5]),([6],[6]),([1,7],[1,7]),([0,1,2,3,4,5,6,7,8],[]),([9,8,8,0,1,2,3,4,5,6,7,8],[8,9])])
def XG.B6:List Nat:=[0,1,0,0,12,28,60,124,255,511,1023]
theorem XG.tab6:rtab .any (opsOf Tryz.f19 6)=XG.T6:=by kernel_rfl
theorem XG.bits6:waitsOk XG.T6.2 XG.B6=true:=by kernel_rfl
theorem XG.calls (k:Nat) (A0_0:Option Addr) (c0_0:Nat) (l0_0:List Int) (a0_1:Int) (a1:Int) (r1:List (S51)) (r2:List (S58)) (r3:Bool) (w:World) (h0_0:Rw (Kd.int .i64) w A0_0 c0_0 l0_0) (h:XG.f k l0_0 a0_1 a1=some (r1,r2,r3)) :
  Calls Tryz.prog 19 #[.agg #[.slice A0_0 l0_0.length c0_0,.int .i64 a0_1],.int .i64 a1] w fun e w'=>∃ v0_ v1_:Value,e = .returned (.tuple #[.agg #[v0_,v1_],.bool r3])∧Kd.R k51 51 w' w.heap.size (fun _=>True) v0_ r1∧Kd.S k58 58 w' w.heap.size (fun _=>True) v1_ r2∧Below w.heap.size w w':=by
 have hu26:=Tryz.underlying26
 have hu33:=Tryz.underlying33
 have hu51:=Tryz.underlying51
 obtain⟨HR0_0,HC0_0⟩:=h0_0
 have HB:=aM (Below.refl w.heap.size w)
 have H:=h
 unfold XG.f at H
 clear h
 replace H:=bE H;obtain⟨t104,A3,H⟩:=H
 have H':=aM H
 clear H
 go_enter Tryz.func19,Tryz.ntmps19
 go_wp2_with (first | (refine boxE 2 #[.slice A0_0 l0_0.length c0_0,.int .i64 a0_1] 26 ?_;intro gbz1 hg wz1 hbox hb;have BKz1:=aM (hbox);have GWz1:=aG hg HB;replace HB:=aS HB hb;clear hb hbox hg) | (refine boxE 4 #[.slice none 0 0,.slice none 0 0] 33 ?_;intro gbz2 hg wz2 hbox hb;have BKz2:=aM (hbox);have GWz2:=aG hg HB;have NBz1:=aL hg BKz1;have NBz2:=aR hg BKz1;replace BKz1:=aB BKz1 hb;replace HB:=aS HB hb;clear hb hbox hg) | (refine boxE 6 #[.slice none 0 0,.slice none 0 0] 33 ?_;intro gbz3 hg wz3 hbox hb;have BKz3:=aM (hbox);have GWz3:=aG hg HB;have NBz3:=aL hg BKz1;have NBz4:=aR hg BKz1;have NBz5:=aL hg BKz2;have NBz6:=aR hg BKz2;replace BKz1:=aB BKz1 hb;replace BKz2:=aB BKz2 hb;replace HB:=aS HB hb;clear hb hbox hg;have hnbz1:=nB NBz4 NBz3;have hnbz2:=nB NBz6 NBz5;have hczz1:=cZ2 BKz3.out;have hnbz3:=nB NBz1 NBz2;have hczz3:=cZ2 BKz1.out) | ((with_reducible refine gate_callee (f:=94) rfl ?_);refine goesM 94 11 Tryz.func94 #[.agg #[.slice A0_0 l0_0.length c0_0,.int .i64 a0_1]] ?_;refine(Xl.calls k _ _ l0_0 a0_1 t104 _ (rW HR0_0 HB HC0_0) A3.out).mono ?_;rintro e wz4 ⟨vz1,rfl,hoz1,hb⟩;refine⟨_,rfl,?_⟩;have HOz1:=aM (Kd.R_lower hoz1 (below_size (hX HB.out)));replace BKz1:=aF BKz1 hb;replace BKz2:=aF BKz2 hb;replace BKz3:=aM (blk_below (g:=gbz3) (o:=.cells #[.slice none 0 0,.slice none 0 0] 33 (0,0)) (bP BKz3.out) hb);replace HB:=aS HB hb;clear hb hoz1))
 go_loopg [8] k (fun kq v8 w'=>∃ (x8_1:Int) (x104000_1:List (S51)) (u104000:Value),v8 = .int .i64 x8_1∧Aside0 (XG.l0 kq a1 t104 x8_1 x104000_1=some (r1,r2,r3))∧Aside0 (kq≤k)∧Aside0 (Kd.R (Kd.int .i64) 3 w' w.heap.size (fun _=>True) vz1 t104)∧Aside0 (Kd.R k51 51 w' w.heap.size (fun _=>True) u104000 x104000_1)∧Aside0 (w'.heap[gbz1]? = some (.cells #[(.slice A0_0 l0_0.length c0_0),.int .i64 a0_1] 26 (0,0)))∧Aside0 (w'.heap[gbz2]? = some (.cells #[(.slice none 0 0),(.slice none 0 0)] 33 (0,0)))∧Aside0 (w'.heap[gbz3]? = some (.cells #[u104000,(.slice none 0 0)] 33 (0,0)))∧Aside0 (Below w.heap.size w w'))
 case atStart=>exact⟨(0),(([]:List (S51))),(.slice none 0 0),rS,H',⟨Nat.le_refl _⟩,⟨(rX HOz1.out)⟩,⟨by first | exact Kd.R_nil _ _ _ _ _ | exact Kd.N_nil _ _ _ _ _ | exact Kd.V_nil _ _ _ _ _ | exact Kd.Q_nil _ _ _ _ _ | exact Kd.S_nil _ _ _ _ _⟩,⟨(bX BKz1.out)⟩,⟨(bX BKz2.out)⟩,⟨(bX BKz3.out)⟩,⟨(hX HB.out)⟩⟩
 case round =>
  clear H'
  try clear hczz3
  try clear hczz1
  obtain⟨x8_1,x104000_1,u104000,rfl,HA,HKy1,HO_y1,HO_y2,BKz1,BKz2,BKz3,HB⟩:=hrel
  cases gk with
  | zero=>exact absurd HA.out (by simp[XG.l0])
  | succ k1 =>
   have H:=HA.out
   clear HA
   simp only[XG.l0] at H
   revert H;refine iP ?_ ?_<;>intro c13b0 H
   ·replace H:=ifP H;obtain⟨c14,H⟩:=H
    have c14b0:=decide_eq_true c14
    clear c14
    replace H:=ifP H;obtain⟨c15,H⟩:=H
    have LMc15:=aM c15
    clear c15
    obtain⟨y108,hy108⟩:∃ y_:List (S51),y_=(x104000_1 ++ [(⟨rd t104 x8_1,0,0⟩:S51)]):=⟨_,rfl⟩
    replace H:(XG.l0 k1 a1 t104 (wrap64 (x8_1+1)) y108)=some (r1,r2,r3):=yH H hy108
    have Ny108:=aM hy108
    clear hy108
    have H':=aM H
    clear H
    obtain⟨Aox1,cox1,eox1⟩:=Kd.R_slice HO_y1.out
    subst eox1
    try go_wp2
    replace HO_y1:=aM (Kd.R_drew HO_y1.out)
    replace HO_y2:=aM (Kd.R_drew HO_y2.out)
    replace BKz1:=aM (blk_drew BKz1.out)
    replace BKz2:=aM (blk_drew BKz2.out)
    replace BKz3:=aM (blk_drew BKz3.out)
    replace HB:=aM (below_drew1 HB.out)
    have px1:0≤(x8_1:Int):=odA
    have qx1:x8_1<(t104.length:Int):=odA
    obtain⟨adx1,ex1,hxx1⟩:=Kd.at_int (Kd.R_reads' HO_y1.out).2.2 x8_1 px1 qx1
    cases ex1
    replace px1:=eq_true px1
    replace qx1:=eq_true qx1
    refine start_ (n:=11) (S:=fun w'=>w'.cell? ⟨gbz3,0,none⟩=some (u104000)∧w'.cell? ⟨gbz3,1,none⟩=some (.slice none 0 0)∧w'.cell? (adx1.add (x8_1).toNat)=some (.int .i64 (rd t104 x8_1))) (ds:=[8,10]) (bm 11 0) (by kernel_rfl) rfl (by kernel_rfl) ⟨cK BKz3.out 0,cK BKz3.out 1,hxx1⟩ (fun hHeld => ?_);refine with_tabW XG.tab6 XG.bits6 (fun HT_ HW_ => ?_)
    generalize wr.drew=wx1 at HO_y1 HO_y2 BKz1 BKz2 BKz3 HB hxx1 hHeld ⊢
    refine pZ 0 18 (bm 11 1) HT_.out ?_
    refine pZ 2 20 (bm 11 5) HT_.out ?_
    refine pZ 3 21 (bm 11 13) HT_.out ?_
    refine pZ 4 22 (bm 11 29) HT_.out ?_
    refine tZ 1 19 (bm 11 31) HT_.out HW_.out hHeld ?_
    refine tZ 5 23 (bm 11 63) HT_.out HW_.out hHeld ?_
    refine pZ 6 24 (bm 11 127) HT_.out ?_
    refine oZ 7 (some 25) (bm 11 255) HT_.out (fun K hK => ?_)
    refine vZ ?_
    refine hK.out _ _ ⟨(blk_cell (blk_alloc BKz3.out _) 0).trans rfl,(blk_cell (blk_alloc BKz3.out _) 1).trans rfl,(World.cell?_alloc_lt _ _ _ (World.block_lt_of_cell? _ _ (hHeld.2.2))).trans (hHeld.2.2)⟩ (fun hHeld => ?_)
    clear hK K
    refine nZ 25 ?_
    refine last_ (i:=8) (N:=some 26) #[true,true,true,true,true,true,true,true,true,false,false] rfl rfl (one_of HT_.out (by kernel_rfl)) (by decide) (fun K hK => ?_)
    refine Kd.R_append_step k51 (w0:=w) w.heap.size (by rfl) (.tmp 19) (.tmp 25) 30 51 (.agg #[(.int .i64 0),(.int .i64 0),(.int .i64 0)]) 24 rfl Tryz.underlying30 info51 rfl (by decide) (by omega) u104000 x104000_1 (⟨rd t104 x8_1,0,0⟩:S51) [.int .i64 (rd t104 x8_1),.int .i64 0,.int .i64 0] (fun _=>True) (fun _=>False) rfl rfl ?aP (fun _ hk=>hk.elim) ?aF ?aO ?aB ?aS ?aL ?_
    (case aP=>exact k51_mkM _ _ _ (⟨rd t104 x8_1,0,0⟩:S51))
    (case aB=>exact(hX HB.out))
    (case aF=>exact(fun _ _=>trivial))
    (case aO=>exact(rX HO_y2.out))
    (case aS=>exact(below_size (hX HB.out)))
    (case aL=>have:=LMc15.out;omega)
    intro vx1 wx2 ho hb hg hat
    rw[← Ny108.out] at ho
    have HOx1:=aM (ho)
    replace HO_y1:=aM (Kd.R_over' (rX HO_y1.out) (Kd.R_typed (rX HO_y2.out)) (by decide) hg)
    replace BKz1:=aM (blk_grown (g:=gbz1) (o:=.cells #[.slice A0_0 l0_0.length c0_0,.int .i64 a0_1] 26 (0,0)) (bX BKz1.out) hg (Kd.R_ne HO_y2.out BKz1.out (by decide)))
    replace BKz2:=aM (blk_grown (g:=gbz2) (o:=.cells #[.slice none 0 0,.slice none 0 0] 33 (0,0)) (bX BKz2.out) hg (Kd.R_ne HO_y2.out BKz2.out (by decide)))
    replace BKz3:=aM (blk_grown (g:=gbz3) (o:=.cells #[u104000,.slice none 0 0] 33 (0,0)) (bX BKz3.out) hg (Kd.R_ne HO_y2.out BKz3.out (by decide)))
    replace HB:=aM (hb)
    clear HO_y2
    clear ho hb hg hat
    obtain⟨Aox2,cox2,eox2⟩:=Kd.R_slice HOx1.out
    (first | subst eox2 | (injection eox2 with f1_ f2_ f3_;have fx1:=f1_.symm;have fx2:=f3_.symm;clear f1_ f2_ f3_;subst fx1;subst fx2))
    refine hK.out _ _ ?_
    clear hK K
    refine nZ 26 ?_
    refine pZ 9 27 (bm 11 1023) HT_.out ?_
    refine last_ (i:=10) (N:=none) #[true,true,true,true,true,true,true,true,true,true,true] rfl rfl (one_of HT_.out (by kernel_rfl)) (by decide) (fun K hK => ?_)
    have hsx1:wx2.cell? ⟨gbz3,0,none⟩=some (u104000):=(blk_cell BKz3.out 0).trans rfl
    have hfsx1:=blk_frozen BKz3.out 0
    have hnsx1:=nB NBz3 NBz5
    have hmsx1:=NBz4.out
    have hmsx2:=NBz6.out
    refine skip_ (w1:=?_) (by rfl) rfl ?_ ?_
    rotate_left
    ·go_simp
     rfl
    refine hK.out _ _ ?_
    clear hK K
    refine done_ (done_of HT_.out (by kernel_rfl)) ?_
    try go_wp2
    go_roundg k1
    case measure=>have:=HKy1.out;omega
    case rel=>exact⟨(wrap64 (x8_1+1)),(y108),(.slice Aox2 y108.length cox2),rS,H',⟨by have:=HKy1.out;omega⟩,⟨(Kd.R_mono (rF HO_y1.out BKz3.out) (fun _ hk=>trivial))⟩,⟨(Kd.R_mono (rF HOx1.out BKz3.out) (fun _ hk=>trivial))⟩,⟨(bF BKz1.out)⟩,⟨(bF BKz2.out)⟩,⟨(bP BKz3.out)⟩,⟨(hX HB.out)⟩⟩
   replace H:=bE H;obtain⟨t111,A21,H⟩:=H
   cases t111
   case false =>
    rw[if_neg nft] at H
    replace H:=bE H;obtain⟨t116,A50,H⟩:=H
    obtain⟨Aox1,cox1,eox1⟩:=Kd.R_slice HO_y1.out
    subst eox1
    go_wp2_with ((with_reducible refine gate_callee (f:=95) rfl ?_);refine gD 95 29 Tryz.func95 (Xb.calls _ _ _ _ _ A21.out) ?_;intro nd;(try (rw[drewN_self wr];generalize hq_:World.drewN wr _=wr;have nx1:Aside0 (Kd.R k51 51 wr w.heap.size (fun _=>True) u104000 x104000_1):=⟨by rw[← hq_];exact(rX HO_y2.out)⟩;have nx2:Aside0 (Kd.R (Kd.int .i64) 3 wr w.heap.size (fun _=>True) (.slice Aox1 t104.length cox1) t104):=⟨by rw[← hq_];exact(rX HO_y1.out)⟩;have nx3:Aside0 (wr.heap[gbz1]? = some (.cells #[.slice A0_0 l0_0.length c0_0,.int .i64 a0_1] 26 (0,0))):=⟨by rw[← hq_];exact(bX BKz1.out)⟩;have nx4:Aside0 (wr.heap[gbz2]? = some (.cells #[.slice none 0 0,.slice none 0 0] 33 (0,0))):=⟨by rw[← hq_];exact(bX BKz2.out)⟩;have nx5:Aside0 (wr.heap[gbz3]? = some (.cells #[u104000,.slice none 0 0] 33 (0,0))):=⟨by rw[← hq_];exact(bX BKz3.out)⟩;have nx6:Aside0 (Below w.heap.size w wr):=⟨by rw[← hq_];exact(hX HB.out)⟩;clear HO_y2 HO_y1 BKz1 BKz2 BKz3 HB hq_;have HO_y2:=nx1;have HO_y1:=nx2;have BKz1:=nx3;have BKz2:=nx4;have BKz3:=nx5;have HB:=nx6;clear nx1 nx2 nx3 nx4 nx5 nx6));have hnbx1:=NBz4.out;have hncx1:=NBz3.out;have hnbx2:=NBz6.out;have hncx2:=NBz5.out;have hczx1:=cZ2 BKz3.out;obtain⟨Aox2,cox2,eox2⟩:=Kd.R_slice HO_y2.out;subst eox2;refine Stop.out ?_)
    refine⟨?_⟩
    cases t116
    case false =>
     rw[if_neg nft] at H
     simp only[Option.some.injEq,Prod.mk.injEq] at H
     obtain⟨rfl,rfl,rfl⟩:=H
     go_wp2_with ((with_reducible refine gate_callee (f:=30) rfl ?_);refine goesM 30 34 Tryz.func30 #[.agg #[.slice Aox2 x104000_1.length cox2,.slice none 0 0]] ?_;(refine(Xm.calls k1 _ _ x104000_1 _ _ ([]:List (S58)) false _ (rw2 ?side1 ?side2) (rw2 ?side3 ?side4) A50.out).mono ?_);(case side1=>repeat (first | exact(Kd.R_reads' HO_y2.out).2.2 | (with_reducible refine Kd.C_alloc ?_ _) | (with_reducible refine Kd.C_drewN ?_ _) | (with_reducible refine Kd.C_drew ?_)));(case side2=>exact(Kd.R_reads' HO_y2.out).2.1);(case side3=>exact Kd.C_nil _ _);(case side4=>exact Nat.le_refl _);rintro e wx1 ⟨rfl,hb⟩;refine⟨_,rfl,?_⟩;replace HO_y1:=aQ HO_y1 hb;replace HO_y2:=aQ HO_y2 hb;replace BKz1:=aB BKz1 hb;replace BKz2:=aB BKz2 hb;replace BKz3:=aB BKz3 hb;replace HB:=aS HB hb;clear hb;have hnbx3:=NBz2.out;have hncx3:=NBz1.out;have hczx3:=cZ2 BKz2.out)
     refine bodyPost_ret (results_ct rfl _ _ gbz2 33 #[.slice none 0 0,.slice none 0 0] (0,0) _ rfl (bP BKz2.out) Tryz.underlying33 rfl (by kernel_rfl)) rfl ?_
     exact⟨(Value.slice none 0 0),(Value.slice none 0 0),rE,(by first | exact Kd.R_nil _ _ _ _ _ | exact Kd.S_nil _ _ _ _ _ | exact Kd.V_nil _ _ _ _ _ | exact Kd.N_nil _ _ _ _ _ | exact Kd.Q_nil _ _ _ _ _),(by first | exact Kd.R_nil _ _ _ _ _ | exact Kd.S_nil _ _ _ _ _ | exact Kd.V_nil _ _ _ _ _ | exact Kd.N_nil _ _ _ _ _ | exact Kd.Q_nil _ _ _ _ _),(hX HB.out)⟩
    rw[if_pos rfl] at H
    simp only[Option.some.injEq,Prod.mk.injEq] at H
    obtain⟨rfl,rfl,rfl⟩:=H
    go_wp2_with ((with_reducible refine gate_callee (f:=30) rfl ?_);refine goesM 30 34 Tryz.func30 #[.agg #[.slice Aox2 x104000_1.length cox2,.slice none 0 0]] ?_;(refine(Xm.calls k1 _ _ x104000_1 _ _ ([]:List (S58)) true _ (rw2 ?side1 ?side2) (rw2 ?side3 ?side4) A50.out).mono ?_);(case side1=>repeat (first | exact(Kd.R_reads' HO_y2.out).2.2 | (with_reducible refine Kd.C_alloc ?_ _) | (with_reducible refine Kd.C_drewN ?_ _) | (with_reducible refine Kd.C_drew ?_)));(case side2=>exact(Kd.R_reads' HO_y2.out).2.1);(case side3=>exact Kd.C_nil _ _);(case side4=>exact Nat.le_refl _);rintro e wx1 ⟨rfl,hb⟩;refine⟨_,rfl,?_⟩;replace HO_y1:=aQ HO_y1 hb;replace HO_y2:=aQ HO_y2 hb;replace BKz1:=aB BKz1 hb;replace BKz2:=aB BKz2 hb;replace BKz3:=aB BKz3 hb;replace HB:=aS HB hb;clear hb;have hczx3:=cZ2 BKz3.out;have hnbx3:=NBz2.out;have hncx3:=NBz1.out;have hczx5:=cZ2 BKz2.out)
    refine bodyPost_ret (results_ct rfl _ _ gbz2 33 #[.slice Aox2 x104000_1.length cox2,.slice none 0 0] (0,0) _ rfl (bP BKz2.out) Tryz.underlying33 rfl (by kernel_rfl)) rfl ?_
    exact⟨_,(Value.slice none 0 0),rE,(Kd.R_mono (rF HO_y2.out BKz2.out) (fun _ hk=>trivial)),(by first | exact Kd.R_nil _ _ _ _ _ | exact Kd.S_nil _ _ _ _ _ | exact Kd.V_nil _ _ _ _ _ | exact Kd.N_nil _ _ _ _ _ | exact Kd.Q_nil _ _ _ _ _),(hX HB.out)⟩
   rw[if_pos rfl] at H
   replace H:=ifP H;obtain⟨c23,H⟩:=H
   have c23b0:=eq_true c23
   have c23b1:=decide_eq_true c23
   clear c23
   replace H:=ifP H;obtain⟨c24,H⟩:=H
   have c24b0:=eq_true c24
   have c24b1:=decide_eq_true c24
   clear c24
   replace H:=sE H;obtain⟨y112,Ny112,H⟩:=H
   replace H:=bE H;obtain⟨t115,A25,H⟩:=H
   obtain⟨Aox1,cox1,eox1⟩:=Kd.R_slice HO_y1.out
   subst eox1
   go_wp2_with (first | ((with_reducible refine gate_callee (f:=95) rfl ?_);refine gD 95 29 Tryz.func95 (Xb.calls _ _ _ _ _ A21.out) ?_;intro nd;(try (rw[drewN_self wr];generalize hq_:World.drewN wr _=wr;have nx1:Aside0 (Kd.R k51 51 wr w.heap.size (fun _=>True) u104000 x104000_1):=⟨by rw[← hq_];exact(rX HO_y2.out)⟩;have nx2:Aside0 (Kd.R (Kd.int .i64) 3 wr w.heap.size (fun _=>True) (.slice Aox1 t104.length cox1) t104):=⟨by rw[← hq_];exact(rX HO_y1.out)⟩;have nx3:Aside0 (wr.heap[gbz1]? = some (.cells #[.slice A0_0 l0_0.length c0_0,.int .i64 a0_1] 26 (0,0))):=⟨by rw[← hq_];exact(bX BKz1.out)⟩;have nx4:Aside0 (wr.heap[gbz2]? = some (.cells #[.slice none 0 0,.slice none 0 0] 33 (0,0))):=⟨by rw[← hq_];exact(bX BKz2.out)⟩;have nx5:Aside0 (wr.heap[gbz3]? = some (.cells #[u104000,.slice none 0 0] 33 (0,0))):=⟨by rw[← hq_];exact(bX BKz3.out)⟩;have nx6:Aside0 (Below w.heap.size w wr):=⟨by rw[← hq_];exact(hX HB.out)⟩;clear HO_y2 HO_y1 BKz1 BKz2 BKz3 HB hq_;have HO_y2:=nx1;have HO_y1:=nx2;have BKz1:=nx3;have BKz2:=nx4;have BKz3:=nx5;have HB:=nx6;clear nx1 nx2 nx3 nx4 nx5 nx6))) | ((with_reducible refine gate_dst (N:=31) rfl ?_);refine Kd.S_make k58 _ 58 rfl (N:=31) rfl 31 _ _ rfl a1 rfl rfl Tryz.underlying31 (.agg #[(.int .i64 0),(.int .i64 0),(.slice none 0 0),(.int .i64 0),(.slice none 0 0)]) 72 info58 rfl (by decide) (by omega) z58 (ok:=fun _=>True) (okp:=fun _=>True) (k58_mkM _ _ _ z58 (Kd.R_nil _ _ _ _ _) (Kd.R_nil _ _ _ _ _)) (fun _ hk=>hk) trivial (odA) (Nat.le_trans (Nat.mul_le_mul_right _ (odA:a1.toNat≤3909374676536)) (by omega)) (Below.refl _ _) (Nat.le_refl _) ?_;intro vx1 wx1 hox1 hb hg_ hnew_;clear hg_ hnew_;(first | rw[← Ny112.out] at hox1 | (simp only[Int.reduceToNat] at hox1;rw[← Ny112.out] at hox1));have HOx1:=aM (Kd.S_lower (Kd.S_new' hox1 (Kd.R_lt (rX HO_y1.out))) (below_size (hX HB.out)));replace HO_y1:=aQ HO_y1 hb;replace HO_y2:=aQ HO_y2 hb;replace BKz1:=aB BKz1 hb;replace BKz2:=aB BKz2 hb;replace BKz3:=aB BKz3 hb;replace HB:=aS HB hb;clear hb hox1;obtain⟨Aox2,cox2,eox2⟩:=Kd.S_slice HOx1.out;subst eox2;have hnbx1:=NBz4.out;have hncx1:=NBz3.out;have hnbx2:=NBz6.out;have hncx2:=NBz5.out;have hczx1:=cZ2 BKz3.out;obtain⟨Aox3,cox3,eox3⟩:=Kd.R_slice HO_y2.out;subst eox3;refine Stop.out ?_))
   refine⟨?_⟩
   cases t115
   case false =>
    rw[if_neg nft] at H
    simp only[Option.some.injEq,Prod.mk.injEq] at H
    obtain⟨rfl,rfl,rfl⟩:=H
    go_wp2_with ((with_reducible refine gate_callee (f:=30) rfl ?_);refine gB 30 34 Tryz.func30 (Xm.calls _ _ _ _ _ _ _ _ _ (rw2 (rR HO_y2.out BKz3.out) ((Kd.R_reads' HO_y2.out).2.1)) (rw2 (sR HOx1.out BKz3.out) ((Kd.S_reads' HOx1.out).2.1)) A25.out) ?_;intro wx2 hb;replace HO_y1:=aM (Kd.R_below (rF HO_y1.out BKz3.out) hb);replace HO_y2:=aM (Kd.R_below (rF HO_y2.out BKz3.out) hb);replace HOx1:=aM (Kd.S_below (sF HOx1.out BKz3.out) hb);replace BKz1:=aF BKz1 hb;replace BKz2:=aF BKz2 hb;replace BKz3:=aM (blk_below (g:=gbz3) (o:=.cells #[.slice Aox3 x104000_1.length cox3,.slice Aox2 y112.length cox2] 33 (0,0)) (bP BKz3.out) hb);replace HB:=aS HB hb;clear hb;have hnbx3:=NBz2.out;have hncx3:=NBz1.out;have hczx3:=cZ2 BKz2.out)
    refine bodyPost_ret (results_ct rfl _ _ gbz2 33 #[.slice none 0 0,.slice none 0 0] (0,0) _ rfl (bP BKz2.out) Tryz.underlying33 rfl (by kernel_rfl)) rfl ?_
    exact⟨(Value.slice none 0 0),(Value.slice none 0 0),rE,(by first | exact Kd.R_nil _ _ _ _ _ | exact Kd.S_nil _ _ _ _ _ | exact Kd.V_nil _ _ _ _ _ | exact Kd.N_nil _ _ _ _ _ | exact Kd.Q_nil _ _ _ _ _),(by first | exact Kd.R_nil _ _ _ _ _ | exact Kd.S_nil _ _ _ _ _ | exact Kd.V_nil _ _ _ _ _ | exact Kd.N_nil _ _ _ _ _ | exact Kd.Q_nil _ _ _ _ _),(hX HB.out)⟩
   rw[if_pos rfl] at H
   simp only[Option.some.injEq,Prod.mk.injEq] at H
   obtain⟨rfl,rfl,rfl⟩:=H
   go_wp2_with ((with_reducible refine gate_callee (f:=30) rfl ?_);refine gB 30 34 Tryz.func30 (Xm.calls _ _ _ _ _ _ _ _ _ (rw2 (rR HO_y2.out BKz3.out) ((Kd.R_reads' HO_y2.out).2.1)) (rw2 (sR HOx1.out BKz3.out) ((Kd.S_reads' HOx1.out).2.1)) A25.out) ?_;intro wx2 hb;replace HO_y1:=aM (Kd.R_below (rF HO_y1.out BKz3.out) hb);replace HO_y2:=aM (Kd.R_below (rF HO_y2.out BKz3.out) hb);replace HOx1:=aM (Kd.S_below (sF HOx1.out BKz3.out) hb);replace BKz1:=aF BKz1 hb;replace BKz2:=aF BKz2 hb;replace BKz3:=aM (blk_below (g:=gbz3) (o:=.cells #[.slice Aox3 x104000_1.length cox3,.slice Aox2 y112.length cox2] 33 (0,0)) (bP BKz3.out) hb);replace HB:=aS HB hb;clear hb;have hczx3:=cZ2 BKz3.out;have hnbx3:=NBz2.out;have hncx3:=NBz1.out;have hczx5:=cZ2 BKz2.out)
   refine bodyPost_ret (results_ct rfl _ _ gbz2 33 #[.slice Aox3 x104000_1.length cox3,.slice Aox2 y112.length cox2] (0,0) _ rfl (bP BKz2.out) Tryz.underlying33 rfl (by kernel_rfl)) rfl ?_
   exact⟨_,_,rE,(Kd.R_mono (rF HO_y2.out BKz2.out) (fun _ hk=>trivial)),by (with_reducible repeat (first | apply Kd.S_alloc | apply Kd.S_drewN | apply Kd.S_drew));exact Kd.S_mono (sF HOx1.out BKz2.out) (fun _ hk=>trivial),(hX HB.out)⟩
mutual
def Xh.j0:Nat→Bool→List (S51)→List (S58)→List (S108)→Int→List (S80)→List Int→List Int→Int→Option (Bool)
 | 0,_,_,_,_,_,_,_,_,_=>none
 | k+1,x34,x102000,x102001,x102002,x102003,x102004,x102005,x102006,x102007=>if x34=true then (some false) else (Xh.l0 k 0 x102000 x102001 x102002 x102003 x102004 x102005 x102006 x102007)
def Xh.l0:Nat→Int→List (S51)→List (S58)→List (S108)→Int→List (S80)→List Int→List Int→Int→Option (Bool)
 | 0,_,_,_,_,_,_,_,_,_=>none
 | k+1,x3,x102000,x102001,x102002,x102003,x102004,x102005,x102006,x102007=>if x3<(x102002.length:Int) then (if 0≤x3 then ((Xd.f k ((rd_T108 x102002 x3).f0) ((rd_T108 x102002 x3).f1) ((rd_T108 x102002 x3).f2) ((rd_T108 x102002 x3).f3) ((rd_T108 x102002 x3).f4) (x102002.length:Int)).bind fun t107=>(if t107=true then ((XM.f k x102000 x102001 x102002 x102003 x102004 x102005 x102006 x102007 x3).bind fun t108=>(if t108=true then (Xh.l0 k (wrap64 (x3+1)) x102000 x102001 x102002 x102003 x102004 x102005 x102006 x102007) else (some false))) else (some false))) else (none)) else (some true)
end
def Xh.f (k:Nat) (l0_0:List (S51)) (l0_1:List (S58)) (l0_2:List (S108)) (a0_3:Int) (l0_4:List (S80)) (l0_5:List Int) (l0_6:List Int) (a0_7:Int):Option (Bool):=(Xm.f k l0_0 l0_1).bind fun t102=>(if t102=true then (if (l0_1.length:Int)=(l0_2.length:Int) then ((Xb.f a0_3 0 100000).bind fun t103=>(if t103=true then ((Xu.f k l0_6 a0_7).bind fun t104=>(if t104=true then ((Xa.f k l0_0 l0_1 l0_2 a0_3 l0_4 l0_5 l0_6 a0_7).bind fun t105=>(Xh.j0 k (!t105) l0_0 l0_1 l0_2 a0_3 l0_4 l0_5 l0_6 a0_7)) else (Xh.j0 k true l0_0 l0_1 l0_2 a0_3 l0_4 l0_5 l0_6 a0_7))) else (Xh.j0 k true l0_0 l0_1 l0_2 a0_3 l0_4 l0_5 l0_6 a0_7))) else (Xh.j0 k true l0_0 l0_1 l0_2 a0_3 l0_4 l0_5 l0_6 a0_7)) else (Xh.j0 k true l0_0 l0_1 l0_2 a0_3 l0_4 l0_5 l0_6 a0_7))
def Xh.T6:Bool × List (List Nat × List Nat):=(true,[([],[]),([0],[0]),([],[]),([1,2],[1,2]),([3],[3]),([],[]),([5],[5]),([6],[6]),([4,7],[4,7]),([8],[8]),([9,8],[9]),([10],[10]),([10],[10]),([11,12,10,10],[10,11,12]),([13,10],[10,13]),([10,14],[10,14])])
def Xh.B6:List Nat:=[0,1,0,7,15,0,32,96,255,511,1023,2047,2047,8191,16383,32767]
theorem Xh.tab6:rtab .any (opsOf Tryz.f82 6)=Xh.T6:=by kernel_rfl
theorem Xh.bits6:waitsOk Xh.T6.2 Xh.B6=true:=by kernel_rfl
theorem Xh.calls (k:Nat) (A0_0:Option Addr) (c0_0:Nat) (l0_0:List (S51)) (A0_1:Option Addr) (c0_1:Nat) (l0_1:List (S58)) (A0_2:Option Addr) (c0_2:Nat) (l0_2:List (S108)) (a0_3:Int) (A0_4:Option Addr) (c0_4:Nat) (l0_4:List (S80)) (A0_5:Option Addr) (c0_5:Nat) (l0_5:List Int) (A0_6:Option Addr) (c0_6:Nat) (l0_6:List Int) (a0_7:Int) (r:Bool) (w:World) (h0_0:Rw k51 w A0_0 c0_0 l0_0) (h0_1:Rw k58 w A0_1 c0_1 l0_1) (h0_2:Rw k108 w A0_2 c0_2 l0_2) (h0_4:Rw k80 w A0_4 c0_4 l0_4) (h0_5:Rw (Kd.int .i64) w A0_5 c0_5 l0_5) (h0_6:Rw (Kd.int .i64) w A0_6 c0_6 l0_6) (H:Xh.f k l0_0 l0_1 l0_2 a0_3 l0_4 l0_5 l0_6 a0_7=some r) :
  Calls Tryz.prog 82 #[.agg #[.slice A0_0 l0_0.length c0_0,.slice A0_1 l0_1.length c0_1,.slice A0_2 l0_2.length c0_2,.int .i64 a0_3,.slice A0_4 l0_4.length c0_4,.slice A0_5 l0_5.length c0_5,.slice A0_6 l0_6.length c0_6,.int .i64 a0_7]] w fun e w'=>e = .returned (.bool r)∧Below w.heap.size w w':=by
 have hu37:=Tryz.underlying37
 have hu33:=Tryz.underlying33
 have hu26:=Tryz.underlying26
 have hu108:=Tryz.underlying108
 obtain⟨HR0_0,HC0_0⟩:=h0_0
 obtain⟨HR0_1,HC0_1⟩:=h0_1
 obtain⟨HR0_2,HC0_2⟩:=h0_2
 obtain⟨HR0_4,HC0_4⟩:=h0_4
 obtain⟨HR0_5,HC0_5⟩:=h0_5
 obtain⟨HR0_6,HC0_6⟩:=h0_6
 have HB:=aM (Below.refl w.heap.size w)
 unfold Xh.f at H
 have HC2:=aM H
 clear H
 go_enter Tryz.func82,Tryz.ntmps82
 go_upto_region 1 with((with_reducible refine gate_dst (N:=1) rfl ?_);(try (refine gate_guard (by rfl) ?_;dsimp only));refine boxF 1 #[.slice A0_0 l0_0.length c0_0,.slice A0_1 l0_1.length c0_1,.slice A0_2 l0_2.length c0_2,.int .i64 a0_3,.slice A0_4 l0_4.length c0_4,.slice A0_5 l0_5.length c0_5,.slice A0_6 l0_6.length c0_6,.int .i64 a0_7] 37 ?_;intro gbz1 hg wz1 hbox hb;have BKz1:=aM (hbox);have GWz1:=aG hg HB;replace HB:=aS HB hb;clear hb hbox hg)
 (try simp only[Act.put,List.setIfInBounds_toArray,List.set_cons_zero,List.set_cons_succ])
 go_cut [34] (fun vz1 wc=>∃ (kq:Nat) (x34_1:Bool),vz1 = .bool x34_1∧Aside0 (Xh.j0 kq x34_1 l0_0 l0_1 l0_2 a0_3 l0_4 l0_5 l0_6 a0_7=some r)∧Aside0 (kq≤k)∧Aside0 (wc.heap[gbz1]? = some (.cells #[(.slice A0_0 l0_0.length c0_0),(.slice A0_1 l0_1.length c0_1),(.slice A0_2 l0_2.length c0_2),.int .i64 a0_3,(.slice A0_4 l0_4.length c0_4),(.slice A0_5 l0_5.length c0_5),(.slice A0_6 l0_6.length c0_6),.int .i64 a0_7] 37 (0,0)))∧Aside0 (Below w.heap.size w wc))
 case first =>
  have H:=HC2.out
  clear HC2
  replace H:=bE H;obtain⟨t102,A4,H⟩:=H
  cases t102
  case false =>
   rw[if_neg nft] at H
   have H':=aM H
   clear H
   have hczy1:=cZ8 BKz1.out
   go_wp2_with (refine gB 30 6 Tryz.func30 (Xm.calls _ _ _ _ _ _ _ _ _ (rW HR0_0 HB HC0_0) (rW HR0_1 HB HC0_1) A4.out) ?_;intro wy1 hb;replace BKz1:=aB BKz1 hb;replace HB:=aS HB hb;clear hb)
   go_meet
   case rel=>exact⟨_,(true),rS,H',⟨by first | omega | exact Nat.le_refl _⟩,⟨(bX BKz1.out)⟩,⟨(hX HB.out)⟩⟩
  rw[if_pos rfl] at H
  have hczy1:=cZ8 BKz1.out
  go_wp2_with (refine gB 30 6 Tryz.func30 (Xm.calls _ _ _ _ _ _ _ _ _ (rW HR0_0 HB HC0_0) (rW HR0_1 HB HC0_1) A4.out) ?_;intro wy1 hb;replace BKz1:=aB BKz1 hb;replace HB:=aS HB hb;clear hb;have hczy9:=cZ8 BKz1.out;refine Stop.out ?_)
  refine⟨?_⟩
  by_cases c6:(l0_1.length:Int)=(l0_2.length:Int)
  case neg =>
   rw[if_neg c6] at H
   obtain⟨c6b0,c6b1⟩:=eqF c6
   have c6b2:(l0_1.length == l0_2.length)=false:=by first | simpa using c6 | (simp at c6 ⊢;omega)
   (first | rw[c6b0] | (simp only[i64_w,i32_w];rw[c6b0]) | skip)
   have H':=aM H
   clear H
   go_wp2
   go_meet
   case rel=>exact⟨_,(true),rS,H',⟨by first | omega | exact Nat.le_refl _⟩,⟨(bX BKz1.out)⟩,⟨(hX HB.out)⟩⟩
  rw[if_pos c6] at H
  obtain⟨c6b0,c6b1⟩:=eqT c6
  have c6b2:(l0_1.length == l0_2.length)=true:=by first | simpa using c6 | (simp at c6 ⊢;omega)
  clear c6
  (first | rw[c6b0] | (simp only[i64_w,i32_w];rw[c6b0]) | skip)
  replace H:=bE H;obtain⟨t103,A7,H⟩:=H
  cases t103
  case false =>
   rw[if_neg nft] at H
   have H':=aM H
   clear H
   go_wp2_with (go_at_call 95;(with_reducible refine(Xb.calls _ _ _ _ _ A7.out).mono ?_);rintro e w' ⟨rfl,⟨nd,rfl⟩⟩)
   go_meet
   case rel=>exact⟨_,(true),rS,H',⟨by first | omega | exact Nat.le_refl _⟩,⟨(bX BKz1.out)⟩,⟨(hX HB.out)⟩⟩
  rw[if_pos rfl] at H
  replace H:=bE H;obtain⟨t104,A9,H⟩:=H
  go_wp2_with (go_at_call 95;(with_reducible refine(Xb.calls _ _ _ _ _ A7.out).mono ?_);rintro e w' ⟨rfl,⟨nd,rfl⟩⟩;refine Stop.out ?_)
  refine⟨?_⟩
  cases t104
  case false =>
   rw[if_neg nft] at H
   have H':=aM H
   clear H
   go_wp2_with (go_at_call 125;(with_reducible refine(Xu.calls _ _ _ _ _ _ _ (rW HR0_6 HB HC0_6) A9.out).mono ?_);rintro e wy2 ⟨rfl,hb⟩;replace BKz1:=aB BKz1 hb;replace HB:=aS HB hb;clear hb)
   go_meet
   case rel=>exact⟨_,(true),rS,H',⟨by first | omega | exact Nat.le_refl _⟩,⟨(bX BKz1.out)⟩,⟨(hX HB.out)⟩⟩
  rw[if_pos rfl] at H
  replace H:=bE H;obtain⟨t105,A11,H⟩:=H
  have H':=aM H
  clear H
  go_wp2_with (first | (go_at_call 125;(with_reducible refine(Xu.calls _ _ _ _ _ _ _ (rW HR0_6 HB HC0_6) A9.out).mono ?_);rintro e wy2 ⟨rfl,hb⟩;replace BKz1:=aB BKz1 hb;replace HB:=aS HB hb;clear hb;have hczy17:=cZ8 BKz1.out) | (go_at_call 146;(with_reducible refine(Xa.calls _ _ _ _ _ _ _ _ _ _ _ _ _ _ _ _ _ _ _ _ _ _ _ (rW HR0_0 HB HC0_0) (rW HR0_1 HB HC0_1) (rW HR0_2 HB HC0_2) (rW HR0_4 HB HC0_4) (rW HR0_5 HB HC0_5) (rW HR0_6 HB HC0_6) A11.out).mono ?_);rintro e wy3 ⟨rfl,hb⟩;replace BKz1:=aB BKz1 hb;replace HB:=aS HB hb;clear hb))
  go_meet
  case rel=>exact⟨_,(!t105),rS,H',⟨by first | omega | exact Nat.le_refl _⟩,⟨(bX BKz1.out)⟩,⟨(hX HB.out)⟩⟩
 case rest =>
  clear HC2
  obtain⟨kq,x34_1,rfl,HA,HJy1,BKz1,HB⟩:=hcut
  cases kq with
  | zero=>exact absurd HA.out (by simp[Xh.j0])
  | succ kj1 =>
   have H:=HA.out
   clear HA
   simp only[Xh.j0] at H
   cases x34_1
   case true =>
    rw[if_pos rfl] at H
    exact fR
   rw[if_neg nft] at H
   have H':=aM H
   clear H
   go_wp2
   go_loopg [3] kj1 (fun kq v3 w'=>∃ (x3_2:Int),v3 = .int .i64 x3_2∧Aside0 (Xh.l0 kq x3_2 l0_0 l0_1 l0_2 a0_3 l0_4 l0_5 l0_6 a0_7=some r)∧Aside0 (kq≤kj1)∧Aside0 (w'.heap[gbz1]? = some (.cells #[(.slice A0_0 l0_0.length c0_0),(.slice A0_1 l0_1.length c0_1),(.slice A0_2 l0_2.length c0_2),.int .i64 a0_3,(.slice A0_4 l0_4.length c0_4),(.slice A0_5 l0_5.length c0_5),(.slice A0_6 l0_6.length c0_6),.int .i64 a0_7] 37 (0,0)))∧Aside0 (Below w.heap.size w w'))
   case atStart=>exact⟨(0),rS,H',⟨Nat.le_refl _⟩,⟨(bX BKz1.out)⟩,⟨(hX HB.out)⟩⟩
   case round =>
    clear H'
    obtain⟨x3_2,rfl,HA,HKw1,BKz1,HB⟩:=hrel
    cases gk with
    | zero=>exact absurd HA.out (by simp[Xh.l0])
    | succ k2 =>
     have H:=HA.out
     clear HA
     simp only[Xh.l0] at H
     revert H;refine iN ?_ ?_<;>intro c31b0 H
     ·obtain rfl:=sI H
      have hczv1:=cZ8 BKz1.out
      exact fS
     replace H:=ifQ H;obtain⟨c32b0,H⟩:=H
     replace H:=bE H;obtain⟨t107,A33,H⟩:=H
     have hczv1:=cZ8 BKz1.out
     try go_wp2
     obtain⟨adv1,Av1,cv1,Av2,cv2,Av3,cv3,ev1,pv1,qv1,hxv1,HCv1,HRv1,HCv2,HRv2,HCv3,HRv3⟩:=at_T108c HR0_2 HB x3_2
     cases ev1
     have hcb0_:=cV8 BKz1.out
     refine sR0 16 Xh.tab6 Xh.bits6 (fun HT_ HW_ hHeld => ?_)
     refine zA 0 ?_
     refine zA 2 ?_
     refine zA 5 ?_
     refine tA 1 ?_
     refine zA 3 ?_
     refine tA 4 ?_
     refine tA 6 ?_
     refine zA 7 ?_
     cases t107
     case false =>
      rw[if_neg nft] at H
      obtain rfl:=sI H
      refine eB 8 Tryz.func147 (Xd.calls k2 _ _ ((rd_T108 l0_2 x3_2).f0) ((rd_T108 l0_2 x3_2).f1) ((rd_T108 l0_2 x3_2).f2) _ _ ((rd_T108 l0_2 x3_2).f3) _ _ ((rd_T108 l0_2 x3_2).f4) (l0_2.length:Int) false _ (rW HRv1 HB HCv1) (rW HRv2 HB HCv2) (rW HRv3 HB HCv3) A33.out) (fun wv2 hb hHeld => ?_)
      replace BKz1:=aB BKz1 hb
      replace HB:=aS HB hb
      (try clear hb)
      refine zA 9 ?_
      refine zA 10 ?_
      refine uA 11 ?_
      refine uA 12 ?_
      refine uA 13 ?_
      refine uA 14 ?_
      refine zA 15 ?_
      refine dA ?_
      try go_wp2
      go_ret
      exact⟨rE,(hX HB.out)⟩
     rw[if_pos rfl] at H
     replace H:=bE H;obtain⟨t108,A35,H⟩:=H
     refine eB 8 Tryz.func147 (Xd.calls k2 _ _ ((rd_T108 l0_2 x3_2).f0) ((rd_T108 l0_2 x3_2).f1) ((rd_T108 l0_2 x3_2).f2) _ _ ((rd_T108 l0_2 x3_2).f3) _ _ ((rd_T108 l0_2 x3_2).f4) (l0_2.length:Int) true _ (rW HRv1 HB HCv1) (rW HRv2 HB HCv2) (rW HRv3 HB HCv3) A33.out) (fun wv2 hb hHeld => ?_)
     replace BKz1:=aB BKz1 hb
     replace HB:=aS HB hb
     (try clear hb)
     refine zA 9 ?_
     refine zA 10 ?_
     refine zA 12 ?_
     refine tA 11 ?_
     cases t108
     case false =>
      rw[if_neg nft] at H
      obtain rfl:=sI H
      refine eB 13 Tryz.func148 (XM.calls k2 _ _ l0_0 _ _ l0_1 _ _ l0_2 a0_3 _ _ l0_4 _ _ l0_5 _ _ l0_6 a0_7 x3_2 false _ (rW HR0_0 HB HC0_0) (rW HR0_1 HB HC0_1) (rW HR0_2 HB HC0_2) (rW HR0_4 HB HC0_4) (rW HR0_5 HB HC0_5) (rW HR0_6 HB HC0_6) A35.out) (fun wv3 hb hHeld => ?_)
      replace BKz1:=aB BKz1 hb
      replace HB:=aS HB hb
      (try clear hb)
      refine zA 14 ?_
      refine zA 15 ?_
      refine dA ?_
      try go_wp2
      go_ret
      exact⟨rE,(hX HB.out)⟩
     rw[if_pos rfl] at H
     have H':=aM H
     clear H
     refine eB 13 Tryz.func148 (XM.calls k2 _ _ l0_0 _ _ l0_1 _ _ l0_2 a0_3 _ _ l0_4 _ _ l0_5 _ _ l0_6 a0_7 x3_2 true _ (rW HR0_0 HB HC0_0) (rW HR0_1 HB HC0_1) (rW HR0_2 HB HC0_2) (rW HR0_4 HB HC0_4) (rW HR0_5 HB HC0_5) (rW HR0_6 HB HC0_6) A35.out) (fun wv3 hb hHeld => ?_)
     replace BKz1:=aB BKz1 hb
     replace HB:=aS HB hb
     (try clear hb)
     refine zA 14 ?_
     refine zA 15 ?_
     refine dA ?_
     try go_wp2
     go_roundg k2
     case measure=>have:=HJy1.out;have:=HKw1.out;omega
     case rel=>exact⟨(wrap64 (x3_2+1)),rS,H',⟨by have:=HJy1.out;have:=HKw1.out;omega⟩,⟨(bX BKz1.out)⟩,⟨(hX HB.out)⟩⟩
end Go.Proofs.YthejoblnfpaojaaGreat.P
