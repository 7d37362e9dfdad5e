/- A part of the proof of the law FnExactReplay: texts of this seat, merged (words, printed functions of the program, plain lemmas). Conditions: none of its own. -/
import Derived.Test.YtmljebgideecjaaGreatP2kFnExactReplay28
set_option linter.unusedSimpArgs false
set_option linter.unusedVariables false
set_option maxHeartbeats 8000000
set_option maxRecDepth 100000
namespace Go.Proofs.YtmljebgideecjaaGreat.P2
open Go.Proofs.YtmljebgideecjaaGreatZ Go.RowKit Go.Proofs.YtmljebgideecjaaGreatW.PrintWords Go.Proofs.YtmljebgideecjaaGreatW.PrintLast Go.Proofs.YtmljebgideecjaaGreatW.PrintMore
attribute [local go_sem] max2_int min2_int max_two min_two max_three min_three max_four min_four   -- for this text's walks alone
def Xm.f (k:Nat) (l0_0:List Int) (a0_1:Int) (a1_0:Int) (a1_1:Int) (a1_2:Int):Option (List Int × Bool):=(some (([]:List Int):List Int)).bind fun y103=>((Xo.f k l0_0 a0_1 a1_2).bind fun t106=>(if a1_0=1 then (if 0≤a1_1 then (if a1_1<(l0_0.length:Int) then (if (rd l0_0 a1_1)=0 then (some (y103,decide (t106<0))) else (some (y103,false))) else (none)) else (none)) else (if a1_0=2 then (if 0≤a1_1 then (if a1_1<(l0_0.length:Int) then (if (rd l0_0 a1_1)=0 then (some (y103,false)) else (if t106<0 then (some (y103,true)) else (some (y103,(t106 == a1_1))))) else (none)) else (none)) else (if a1_0=3 then (if 0≤a1_1 then (if a1_1<(l0_0.length:Int) then (some (y103,((rd l0_0 a1_1) != 0))) else (none)) else (none)) else (if a1_0=4 then (if 0≤a1_1 then (if a1_1<(l0_0.length:Int) then (some ((([rd l0_0 a1_1]:List Int)),((rd l0_0 a1_1) != 0))) else (none)) else (none)) else (if a1_0=5 then (some ((([t106]:List Int)),decide (t106 ≥ 0))) else (if a1_0=6 then ((Xaa.f k l0_0 a0_1 a1_1).bind fun t118=>(some ((([t118]:List Int)),true))) else (if a1_0=7 then ((some (([]:List Int):List Int)).bind fun y122=>(if y122.length+l0_0.length<17592186044416 then (some ((y122 ++ l0_0),true)) else (none))) else (if a1_0=8 then (some (y103,(a0_1 == 0))) else (if a1_0=9 then ((Xb.f a0_1 1 4).bind fun t128=>(some (y103,t128))) else ((some (([t106]:List Int):List Int)).bind fun y129=>(if a0_1=5 then (some (y129,decide (t106 ≥ 0))) else (some (y129,false))))))))))))))
def Xm.T7:Bool × List (List Nat × List Nat):=(true,[([],[]),([],[]),([1],[1]),([],[]),([3],[3]),([2,4],[2,4]),([5],[5]),([6],[6]),([7],[7]),([8],[8]),([9,8],[8,9]),([10,8,8],[8,10]),([11],[11]),([11],[11]),([13,11],[11,13]),([12,14,11],[11,12,14]),([11,15,8],[8,11,15]),([8,16],[8,16]),([0,11,0],[0]),([17,18,0,1,2,3,4,5,6,7,8,9,10,11,12,13,14,15,16,17,18],[17])])
def Xm.B7:List Nat:=[0,0,2,0,8,30,62,126,254,510,1022,2046,4094,4094,12286,32766,65534,131070,4095,524287]
theorem Xm.tab7:rtab .any (opsOf Tryz.f140 7)=Xm.T7:=by kernel_rfl
theorem Xm.bits7:waitsOk Xm.T7.2 Xm.B7=true:=by kernel_rfl
def Xm.T9:Bool × List (List Nat × List Nat):=(true,[([],[]),([],[]),([1],[1]),([],[]),([3],[3]),([2,4],[2,4]),([5],[5]),([6],[6]),([0,0],[0]),([7,8,0,1,2,3,4,5,6,7,8],[7])])
def Xm.B9:List Nat:=[0,0,2,0,8,30,62,126,1,511]
theorem Xm.tab9:rtab .any (opsOf Tryz.f140 9)=Xm.T9:=by kernel_rfl
theorem Xm.bits9:waitsOk Xm.T9.2 Xm.B9=true:=by kernel_rfl
def Xm.T11:Bool × List (List Nat × List Nat):=(true,[([],[]),([0],[0]),([],[]),([2],[2]),([1,3],[1,3]),([4],[4]),([5],[5]),([],[]),([7],[7]),([],[]),([9],[9]),([8,10],[8,10]),([11],[11]),([12],[12]),([6,0,1,2,3,4,5,6],[6]),([13,14,0,1,2,3,4,5,6,7,8,9,10,11,12,13,14],[13])])
def Xm.B11:List Nat:=[0,1,0,4,15,31,63,0,128,0,512,1920,3968,8064,127,32767]
theorem Xm.tab11:rtab .any (opsOf Tryz.f140 11)=Xm.T11:=by kernel_rfl
theorem Xm.bits11:waitsOk Xm.T11.2 Xm.B11=true:=by kernel_rfl
theorem Xm.calls (k:Nat) (A0_0:Option Addr) (c0_0:Nat) (l0_0:List Int) (a0_1:Int) (a1_0:Int) (a1_1:Int) (a1_2:Int) (r1:List Int) (r2:Bool) (w:World) (h0_0:Rw (Kd.int .i64) w A0_0 c0_0 l0_0) (h:Xm.f k l0_0 a0_1 a1_0 a1_1 a1_2=some (r1,r2)) :
  Calls Tryz.prog 140 #[.agg #[.slice A0_0 l0_0.length c0_0,.int .i64 a0_1],.agg #[.int .i64 a1_0,.int .i64 a1_1,.int .i64 a1_2]] w fun e w'=>∃ v0_:Value,e = .returned (.tuple #[v0_,.bool r2])∧Kd.R (Kd.int .i64) 3 w' w.heap.size (fun _=>True) v0_ r1∧Below w.heap.size w w':=by
 have hu41:=Tryz.underlying41
 have hu69:=Tryz.underlying69
 obtain⟨HR0_0,HC0_0⟩:=h0_0
 have HB:=aM (Below.refl w.heap.size w)
 have H:=h
 unfold Xm.f at H
 clear h
 replace H:=sE H;obtain⟨y103,Ny103,H⟩:=H
 replace H:=bE H;obtain⟨t106,A3,H⟩:=H
 go_enter Tryz.func140,Tryz.ntmps140
 go_wp2_with (first | (refine boxE 2 #[.slice A0_0 l0_0.length c0_0,.int .i64 a0_1] 41 ?_;intro gbz1 hg wz1 hbox hb;have BKz1:=aM (hbox);have GWz1:=aG hg HB;replace HB:=aS HB hb;clear hb hbox hg) | (refine boxE 3 #[.int .i64 a1_0,.int .i64 a1_1,.int .i64 a1_2] 69 ?_;intro gbz2 hg wz2 hbox hb;have BKz2:=aM (hbox);have GWz2:=aG hg HB;have NBz1:=aL hg BKz1;have NBz2:=aR hg BKz1;replace BKz1:=aB BKz1 hb;replace HB:=aS HB hb;clear hb hbox hg) | ((with_reducible refine gate_dst (N:=8) rfl ?_);refine Kd.R_lit (Kd.int .i64) _ 3 ?hg (N:=8) ?hd (xs:=([]:List Int)) (inner:=[]) (ok:=fun _=>True) (okp:=fun _=>True) ?hr ?hp (fun _ hk=>hk) trivial (Below.refl _ _) (Nat.le_refl _) (by simp) ?_;(case hd=>rfl);(case hg=>rfl);(case hr=>first | (go_simp;done) | (go_simp;rfl));(case hp=>exact(Reps.none _ _));intro vz1 wz3 hoz1 hb hg_ hnew_;clear hg_ hnew_;(first | rw[← Ny103.out] at hoz1 | (simp only[Int.reduceToNat] at hoz1;rw[← Ny103.out] at hoz1));have HOz1:=aM (Kd.R_lower hoz1 (below_size (hX HB.out)));replace BKz1:=aB BKz1 hb;replace BKz2:=aB BKz2 hb;replace HB:=aS HB hb;clear hb hoz1;have hnbz1:=nB NBz1 NBz2;have hczz1:=cZ2 BKz1.out;have hczz3:=cZ3 BKz2.out;refine Stop.out ?_))
 refine⟨?_⟩
 revert H;refine eP ?_ ?_<;>intro c4b0 c4b1 H
 ·replace H:=ifP H;obtain⟨c5,H⟩:=H
  have c5b0:=decide_eq_true c5
  clear c5
  replace H:=ifQ H;obtain⟨c6b0,H⟩:=H
  go_wp2_with (refine gB 160 12 Tryz.func160 (Xo.calls _ _ _ _ _ _ _ _ (rW HR0_0 HB HC0_0) A3.out) ?_;intro wz4 hb;replace HOz1:=aQ HOz1 hb;replace BKz1:=aB BKz1 hb;replace BKz2:=aB BKz2 hb;replace HB:=aS HB hb;clear hb;have hczz6:=cZ3 BKz2.out;have hczz9:=cZ2 BKz1.out;have pz1:0≤(a1_1:Int):=odA;have qz1:a1_1<(l0_0.length:Int):=odA;obtain⟨adz1,ez1,hxz1⟩:=Kd.at_int HR0_0.out a1_1 pz1 qz1;cases ez1;replace hxz1:=bc HB.out hxz1;replace pz1:=eq_true pz1;replace qz1:=eq_true qz1;refine Stop.out ?_)
  refine⟨?_⟩
  revert H;refine eN ?_ ?_<;>intro c7b0 c7b1 H
  ·simp only[Option.some.injEq,Prod.mk.injEq] at H
   obtain⟨rfl,rfl⟩:=H
   go_wp2
   go_ret2
   exact⟨_,rE,(rX HOz1.out),(hX HB.out)⟩
  simp only[Option.some.injEq,Prod.mk.injEq] at H
  obtain⟨rfl,rfl⟩:=H
  go_wp2
  go_ret2
  exact⟨_,rE,(rX HOz1.out),(hX HB.out)⟩
 revert H;refine eP ?_ ?_<;>intro c28b0 c28b1 H
 ·replace H:=ifP H;obtain⟨c29,H⟩:=H
  have c29b0:=decide_eq_true c29
  clear c29
  replace H:=ifQ H;obtain⟨c30b0,H⟩:=H
  go_wp2_with (refine gB 160 12 Tryz.func160 (Xo.calls _ _ _ _ _ _ _ _ (rW HR0_0 HB HC0_0) A3.out) ?_;intro wz4 hb;replace HOz1:=aQ HOz1 hb;replace BKz1:=aB BKz1 hb;replace BKz2:=aB BKz2 hb;replace HB:=aS HB hb;clear hb;have hczz6:=cZ3 BKz2.out;refine Stop.out ?_)
  refine⟨?_⟩
  revert H;refine eP ?_ ?_<;>intro c31b0 c31b1 H
  ·simp only[Option.some.injEq,Prod.mk.injEq] at H
   obtain⟨rfl,rfl⟩:=H
   try go_wp2
   replace HOz1:=aM (Kd.R_drew HOz1.out)
   obtain⟨adz1,ez1,pz1,qz1,hxz1⟩:=at_ic HR0_0 HB a1_1
   cases ez1
   have hcb0_:=cV2 BKz1.out
   have hcb1_:=cV3 BKz2.out
   refine sR0 20 Xm.tab7 Xm.bits7 (fun HT_ HW_ hHeld => ?_)
   refine zA 0 ?_
   refine zA 1 ?_
   refine zA 3 ?_
   refine tA 2 ?_
   refine tA 4 ?_
   refine zA 5 ?_
   refine tA 6 ?_
   refine zA 7 ?_
   refine zA 8 ?_
   refine uA 9 ?_
   refine uA 10 ?_
   refine uA 11 ?_
   refine uA 12 ?_
   refine uA 13 ?_
   refine uA 14 ?_
   refine uA 15 ?_
   refine uA 16 ?_
   refine zA 17 ?_
   refine zA 18 ?_
   refine zA 19 ?_
   refine dA ?_
   try go_wp2
   go_ret2
   exact⟨_,rE,(rX HOz1.out),(hX HB.out)⟩
  revert H;refine iP ?_ ?_<;>intro c42b0 H
  ·simp only[Option.some.injEq,Prod.mk.injEq] at H
   obtain⟨rfl,rfl⟩:=H
   try go_wp2
   replace HOz1:=aM (Kd.R_drew HOz1.out)
   obtain⟨adz1,ez1,pz1,qz1,hxz1⟩:=at_ic HR0_0 HB a1_1
   cases ez1
   have hcb0_:=cV2 BKz1.out
   have hcb1_:=cV3 BKz2.out
   refine sR0 20 Xm.tab7 Xm.bits7 (fun HT_ HW_ hHeld => ?_)
   refine zA 0 ?_
   refine zA 1 ?_
   refine zA 3 ?_
   refine tA 2 ?_
   refine tA 4 ?_
   refine zA 5 ?_
   refine tA 6 ?_
   refine zA 7 ?_
   refine zA 8 ?_
   refine zA 9 ?_
   refine zA 10 ?_
   refine zA 11 ?_
   refine uA 12 ?_
   refine uA 13 ?_
   refine uA 14 ?_
   refine uA 15 ?_
   refine zA 16 ?_
   refine zA 17 ?_
   refine zA 18 ?_
   refine zA 19 ?_
   refine dA ?_
   try go_wp2
   go_ret2
   exact⟨_,rE,(rX HOz1.out),(hX HB.out)⟩
  simp only[Option.some.injEq,Prod.mk.injEq] at H
  obtain⟨rfl,rfl⟩:=H
  try go_wp2
  replace HOz1:=aM (Kd.R_drew HOz1.out)
  obtain⟨adz1,ez1,pz1,qz1,hxz1⟩:=at_ic HR0_0 HB a1_1
  cases ez1
  have hcb0_:=cV2 BKz1.out
  have hcb1_:=cV3 BKz2.out
  refine sR0 20 Xm.tab7 Xm.bits7 (fun HT_ HW_ hHeld => ?_)
  refine zA 0 ?_
  refine zA 1 ?_
  refine zA 3 ?_
  refine tA 2 ?_
  refine tA 4 ?_
  refine zA 5 ?_
  refine tA 6 ?_
  refine zA 7 ?_
  refine zA 8 ?_
  refine zA 9 ?_
  refine zA 10 ?_
  refine zA 11 ?_
  refine zA 12 ?_
  refine zA 13 ?_
  refine zA 18 ?_
  refine tA 14 ?_
  refine zA 15 ?_
  refine zA 16 ?_
  refine zA 17 ?_
  refine zA 19 ?_
  refine dA ?_
  try go_wp2
  go_ret2
  exact⟨_,rE,(rX HOz1.out),(hX HB.out)⟩
 revert H;refine eP ?_ ?_<;>intro c63b0 c63b1 H
 ·replace H:=ifP H;obtain⟨c64,H⟩:=H
  have c64b0:=decide_eq_true c64
  clear c64
  replace H:=ifQ H;obtain⟨c65b0,H⟩:=H
  simp only[Option.some.injEq,Prod.mk.injEq] at H
  obtain⟨rfl,rfl⟩:=H
  try go_wp2_with (refine gB 160 12 Tryz.func160 (Xo.calls _ _ _ _ _ _ _ _ (rW HR0_0 HB HC0_0) A3.out) ?_;intro wz4 hb;replace HOz1:=aQ HOz1 hb;replace BKz1:=aB BKz1 hb;replace BKz2:=aB BKz2 hb;replace HB:=aS HB hb;clear hb;have hczz6:=cZ3 BKz2.out)
  replace HOz1:=aM (Kd.R_drew HOz1.out)
  obtain⟨adz1,ez1,pz1,qz1,hxz1⟩:=at_ic HR0_0 HB a1_1
  cases ez1
  have hcb0_:=cV2 BKz1.out
  have hcb1_:=cV3 BKz2.out
  refine sR0 10 Xm.tab9 Xm.bits9 (fun HT_ HW_ hHeld => ?_)
  refine zA 0 ?_
  refine zA 1 ?_
  refine zA 3 ?_
  refine zA 8 ?_
  refine tA 2 ?_
  refine tA 4 ?_
  refine zA 5 ?_
  refine tA 6 ?_
  refine zA 7 ?_
  refine zA 9 ?_
  refine dA ?_
  try go_wp2
  go_ret2
  exact⟨_,rE,(rX HOz1.out),(hX HB.out)⟩
 revert H;refine eP ?_ ?_<;>intro c76b0 c76b1 H
 ·replace H:=ifP H;obtain⟨c77,H⟩:=H
  have c77b0:=decide_eq_true c77
  clear c77
  replace H:=ifQ H;obtain⟨c78b0,H⟩:=H
  obtain⟨y111,hy111⟩:∃ y_:List Int,y_=(([rd l0_0 a1_1]:List Int)):=⟨_,rfl⟩
  replace H:(some (y111,((rd l0_0 a1_1) != 0)))=some (r1,r2):=yH H hy111
  have Ny111:=aM hy111
  clear hy111
  simp only[Option.some.injEq,Prod.mk.injEq] at H
  obtain⟨rfl,rfl⟩:=H
  try go_wp2_with (refine gB 160 12 Tryz.func160 (Xo.calls _ _ _ _ _ _ _ _ (rW HR0_0 HB HC0_0) A3.out) ?_;intro wz4 hb;replace HOz1:=aQ HOz1 hb;replace BKz1:=aB BKz1 hb;replace BKz2:=aB BKz2 hb;replace HB:=aS HB hb;clear hb;have hczz6:=cZ3 BKz2.out)
  replace HOz1:=aM (Kd.R_drew HOz1.out)
  replace BKz1:=aM (blk_drew BKz1.out)
  replace BKz2:=aM (blk_drew BKz2.out)
  replace HB:=aM (below_drew1 HB.out)
  have pz1:0≤(a1_1:Int):=odA
  have qz1:a1_1<(l0_0.length:Int):=odA
  obtain⟨adz1,ez1,hxz1⟩:=Kd.at_int HR0_0.out a1_1 pz1 qz1
  have hwz1:=hxz1
  cases ez1
  replace hxz1:=bc HB.out hxz1
  replace pz1:=eq_true pz1
  replace qz1:=eq_true qz1
  have pz2:0≤(a1_1:Int):=odA
  have qz2:a1_1<(l0_0.length:Int):=odA
  obtain⟨adz2,ez2,hxz2⟩:=Kd.at_int HR0_0.out a1_1 pz2 qz2
  have hwz2:=hxz2
  obtain rfl:adz1=adz2:=(by injection ez2)
  replace hxz2:=bc HB.out hxz2
  replace pz2:=eq_true pz2
  replace qz2:=eq_true qz2
  refine start_ (n:=16) (S:=fun w'=>w'.cell? ⟨gbz1,0,none⟩=some (.slice (some adz1) l0_0.length c0_0)∧w'.cell? ⟨gbz1,1,none⟩=some (.int .i64 a0_1)∧w'.cell? ⟨gbz2,0,none⟩=some (.int .i64 a1_0)∧w'.cell? ⟨gbz2,1,none⟩=some (.int .i64 a1_1)∧w'.cell? ⟨gbz2,2,none⟩=some (.int .i64 a1_2)∧w'.cell? (adz1.add (a1_1).toNat)=some (.int .i64 (rd l0_0 a1_1))∧w'.cell? (adz1.add (a1_1).toNat)=some (.int .i64 (rd l0_0 a1_1))) (ds:=[]) (bm 16 0) (by kernel_rfl) rfl (by kernel_rfl) ⟨cK BKz1.out 0,cK BKz1.out 1,cK BKz2.out 0,cK BKz2.out 1,cK BKz2.out 2,(bc HB.out hwz1 :),(bc HB.out hwz2 :)⟩ (fun hHeld => ?_);refine with_tabW Xm.tab11 Xm.bits11 (fun HT_ HW_ => ?_)
  generalize wz4.drew=wz5 at HOz1 BKz1 BKz2 HB hxz1 hxz2 hHeld ⊢
  refine pZ 0 61 (bm 16 1) HT_.out ?_
  refine pZ 2 63 (bm 16 5) HT_.out ?_
  refine pZ 7 68 (bm 16 133) HT_.out ?_
  refine pZ 9 70 (bm 16 645) HT_.out ?_
  refine tZ 1 62 (bm 16 647) HT_.out HW_.out hHeld ?_
  refine tZ 3 64 (bm 16 655) HT_.out HW_.out hHeld ?_
  refine pZ 4 65 (bm 16 671) HT_.out ?_
  refine tZ 5 66 (bm 16 703) HT_.out HW_.out hHeld ?_
  refine tZ 8 69 (bm 16 959) HT_.out HW_.out hHeld ?_
  refine tZ 10 71 (bm 16 1983) HT_.out HW_.out hHeld ?_
  refine pZ 11 72 (bm 16 4031) HT_.out ?_
  refine tZ 12 73 (bm 16 8127) HT_.out HW_.out hHeld ?_
  refine pZ 13 74 (bm 16 16319) HT_.out ?_
  refine oZ 6 (some 67) (bm 16 16383) HT_.out (fun K hK => ?_)
  refine Kd.R_lit_step (Kd.int .i64) _ 3 ?hg (N:=67) ?hd (xs:=([rd l0_0 a1_1]:List Int)) (inner:=[.int .i64 (rd l0_0 a1_1)]) (ok:=fun _=>True) (okp:=fun _=>True) ?hr ?hp (fun _ hk=>hk) trivial (Below.refl _ _) (Nat.le_refl _) (by simp) ?_;(case hd=>rfl);(case hg=>rfl);(case hr=>first | (go_simp;done) | (go_simp;rfl));(case hp=>exact(Reps.one (show Kd.M (Kd.int .i64) _ _ _ (rd l0_0 a1_1) [.int .i64 (rd l0_0 a1_1)] from rfl) (Reps.none _ _)))
  intro vz2 wz6 hoz2 hb hg_ hnew_
  clear hg_ hnew_
  (first | rw[← Ny111.out] at hoz2 | (simp only[Int.reduceToNat] at hoz2;rw[← Ny111.out] at hoz2))
  have HOz2:=aM (Kd.R_lower (Kd.R_new' hoz2 (Kd.R_lt (rX HOz1.out))) (below_size (hX HB.out)))
  replace HOz1:=aM (Kd.R_elder' (rX HOz1.out) (Kd.R_base hoz2) hb)
  replace BKz1:=aB BKz1 hb
  replace BKz2:=aB BKz2 hb
  replace HB:=aS HB hb
  clear hb hoz2
  refine hK.out _ _ ⟨cK BKz1.out 0,cK BKz1.out 1,cK BKz2.out 0,cK BKz2.out 1,cK BKz2.out 2,(bc HB.out hwz1 :),(bc HB.out hwz2 :)⟩ (fun hHeld => ?_)
  clear hK K
  refine nZ 67 ?_
  refine pZ 14 4 (bm 16 32767) HT_.out ?_
  refine pZ 15 5 (bm 16 65535) HT_.out ?_
  refine done_ (done_of HT_.out (by kernel_rfl)) ?_
  try go_wp2
  go_ret2
  exact⟨_,rE,(rT (h:=by exact Kd.R_mono HOz2.out (fun _ hk=>trivial))),(hX HB.out)⟩
 revert H;refine eP ?_ ?_<;>intro c91b0 c91b1 H
 ·obtain⟨y115,hy115⟩:∃ y_:List Int,y_=(([t106]:List Int)):=⟨_,rfl⟩
  replace H:(some (y115,decide (t106 ≥ 0)))=some (r1,r2):=yH H hy115
  have Ny115:=aM hy115
  clear hy115
  simp only[Option.some.injEq,Prod.mk.injEq] at H
  obtain⟨rfl,rfl⟩:=H
  go_wp2_with (first | (refine gB 160 12 Tryz.func160 (Xo.calls _ _ _ _ _ _ _ _ (rW HR0_0 HB HC0_0) A3.out) ?_;intro wz4 hb;replace HOz1:=aQ HOz1 hb;replace BKz1:=aB BKz1 hb;replace BKz2:=aB BKz2 hb;replace HB:=aS HB hb;clear hb;have hczz6:=cZ3 BKz2.out) | ((with_reducible refine gate_dst (N:=78) rfl ?_);refine Kd.R_lit (Kd.int .i64) _ 3 ?hg (N:=78) ?hd (xs:=([t106]:List Int)) (inner:=[.int .i64 t106]) (ok:=fun _=>True) (okp:=fun _=>True) ?hr ?hp (fun _ hk=>hk) trivial (Below.refl _ _) (Nat.le_refl _) (by simp) ?_;(case hd=>rfl);(case hg=>rfl);(case hr=>first | (go_simp;done) | (go_simp;rfl));(case hp=>exact(Reps.one (show Kd.M (Kd.int .i64) _ _ _ t106 [.int .i64 t106] from rfl) (Reps.none _ _)));intro vz2 wz5 hoz2 hb hg_ hnew_;clear hg_ hnew_;(first | rw[← Ny115.out] at hoz2 | (simp only[Int.reduceToNat] at hoz2;rw[← Ny115.out] at hoz2));have HOz2:=aM (Kd.R_lower (Kd.R_new' hoz2 (Kd.R_lt (rX HOz1.out))) (below_size (hX HB.out)));replace HOz1:=aM (Kd.R_elder' (rX HOz1.out) (Kd.R_base hoz2) hb);replace BKz1:=aB BKz1 hb;replace BKz2:=aB BKz2 hb;replace HB:=aS HB hb;clear hb hoz2))
  go_ret2
  exact⟨_,rE,(rT (h:=by exact Kd.R_mono HOz2.out (fun _ hk=>trivial))),(hX HB.out)⟩
 revert H;refine eP ?_ ?_<;>intro c103b0 c103b1 H
 ·replace H:=bE H;obtain⟨t118,A104,H⟩:=H
  obtain⟨y119,hy119⟩:∃ y_:List Int,y_=(([t118]:List Int)):=⟨_,rfl⟩
  replace H:(some (y119,true))=some (r1,r2):=yH H hy119
  have Ny119:=aM hy119
  clear hy119
  simp only[Option.some.injEq,Prod.mk.injEq] at H
  obtain⟨rfl,rfl⟩:=H
  go_wp2_with (first | (refine gB 160 12 Tryz.func160 (Xo.calls _ _ _ _ _ _ _ _ (rW HR0_0 HB HC0_0) A3.out) ?_;intro wz4 hb;replace HOz1:=aQ HOz1 hb;replace BKz1:=aB BKz1 hb;replace BKz2:=aB BKz2 hb;replace HB:=aS HB hb;clear hb;have hczz6:=cZ3 BKz2.out;have hczz9:=cZ2 BKz1.out) | (refine gB 146 86 Tryz.func146 (Xaa.calls _ _ _ _ _ _ _ _ (rW HR0_0 HB HC0_0) A104.out) ?_;intro wz5 hb;replace HOz1:=aQ HOz1 hb;replace BKz1:=aB BKz1 hb;replace BKz2:=aB BKz2 hb;replace HB:=aS HB hb;clear hb) | ((with_reducible refine gate_dst (N:=87) rfl ?_);refine Kd.R_lit (Kd.int .i64) _ 3 ?hg (N:=87) ?hd (xs:=([t118]:List Int)) (inner:=[.int .i64 t118]) (ok:=fun _=>True) (okp:=fun _=>True) ?hr ?hp (fun _ hk=>hk) trivial (Below.refl _ _) (Nat.le_refl _) (by simp) ?_;(case hd=>rfl);(case hg=>rfl);(case hr=>first | (go_simp;done) | (go_simp;rfl));(case hp=>exact(Reps.one (show Kd.M (Kd.int .i64) _ _ _ t118 [.int .i64 t118] from rfl) (Reps.none _ _)));intro vz2 wz6 hoz2 hb hg_ hnew_;clear hg_ hnew_;(first | rw[← Ny119.out] at hoz2 | (simp only[Int.reduceToNat] at hoz2;rw[← Ny119.out] at hoz2));have HOz2:=aM (Kd.R_lower (Kd.R_new' hoz2 (Kd.R_lt (rX HOz1.out))) (below_size (hX HB.out)));replace HOz1:=aM (Kd.R_elder' (rX HOz1.out) (Kd.R_base hoz2) hb);replace BKz1:=aB BKz1 hb;replace BKz2:=aB BKz2 hb;replace HB:=aS HB hb;clear hb hoz2))
  go_ret2
  exact⟨_,rE,(rT (h:=by exact Kd.R_mono HOz2.out (fun _ hk=>trivial))),(hX HB.out)⟩
 revert H;refine eP ?_ ?_<;>intro c118b0 c118b1 H
 ·obtain⟨y122,hy122⟩:∃ y_:List Int,y_=(([]:List Int)):=⟨_,rfl⟩
  replace H:(if y122.length+l0_0.length<17592186044416 then (some ((y122 ++ l0_0),true)) else (none))=some (r1,r2):=yH H hy122
  have Ny122:=aM hy122
  clear hy122
  replace H:=ifP H;obtain⟨c119,H⟩:=H
  have LMc119:=aM c119
  clear c119
  obtain⟨y125,hy125⟩:∃ y_:List Int,y_=(y122 ++ l0_0):=⟨_,rfl⟩
  replace H:(some (y125,true))=some (r1,r2):=yH H hy125
  have Ny125:=aM hy125
  clear hy125
  simp only[Option.some.injEq,Prod.mk.injEq] at H
  obtain⟨rfl,rfl⟩:=H
  go_wp2_with (first | (refine gB 160 12 Tryz.func160 (Xo.calls _ _ _ _ _ _ _ _ (rW HR0_0 HB HC0_0) A3.out) ?_;intro wz4 hb;replace HOz1:=aQ HOz1 hb;replace BKz1:=aB BKz1 hb;replace BKz2:=aB BKz2 hb;replace HB:=aS HB hb;clear hb;have hczz6:=cZ3 BKz2.out) | ((with_reducible refine gate_dst (N:=90) rfl ?_);refine Kd.R_lit (Kd.int .i64) _ 3 ?hg (N:=90) ?hd (xs:=([]:List Int)) (inner:=[]) (ok:=fun _=>True) (okp:=fun _=>True) ?hr ?hp (fun _ hk=>hk) trivial (Below.refl _ _) (Nat.le_refl _) (by simp) ?_;(case hd=>rfl);(case hg=>rfl);(case hr=>first | (go_simp;done) | (go_simp;rfl));(case hp=>exact(Reps.none _ _));intro vz2 wz5 hoz2 hb hg_ hnew_;clear hg_ hnew_;(first | rw[← Ny122.out] at hoz2 | (simp only[Int.reduceToNat] at hoz2;rw[← Ny122.out] at hoz2));have HOz2:=aM (Kd.R_lower (Kd.R_new' hoz2 (Kd.R_lt (rX HOz1.out))) (below_size (hX HB.out)));replace HOz1:=aM (Kd.R_elder' (rX HOz1.out) (Kd.R_base hoz2) hb);replace BKz1:=aB BKz1 hb;replace BKz2:=aB BKz2 hb;replace HB:=aS HB hb;clear hb hoz2;have hczz9:=cZ2 BKz1.out) | ((with_reducible refine gate_builtin (b:=.append) (xs:=#[.tmp 90,.tmp 92]) rfl ?_);at_builtin;refine Kd.R_append_rows (Kd.int .i64) (w0:=w) w.heap.size rfl (.tmp 90) (.tmp 92) 28 3 (.int .i64 0) 8 rfl Tryz.underlying28 info3 rfl (by decide) (by omega) vz2 y122 l0_0 _ _ _ (fun k_=>some k_ ≠ (vz1:Value).ownBlock) (fun _=>False) rfl rfl ?aO ?aR (fun _ _ h=>h) (fun _ h=>h.elim) ?aF ?aB ?aS ?aL ?_;(case aR=>repeat (first | exact(Kd.C_below HR0_0.out HB.out) | (with_reducible refine Kd.C_alloc ?_ _) | (with_reducible refine Kd.C_drewN ?_ _) | (with_reducible refine Kd.C_drew ?_)));(case aB=>exact(hX HB.out));(case aF=>exact(fun k_ hk=>Kd.fresh' (Kd.R_lt (rX HOz1.out)) k_ hk));(case aO=>exact(rT (h:=by exact Kd.R_mono HOz2.out (fun _ hk=>hk.2))));(case aS=>exact(below_size (hX HB.out)));(case aL=>have:=LMc119.out;omega);intro vz3 wz6 ho hb hg hat;rw[← Ny125.out] at ho;have HOz3:=aM (ho);replace BKz1:=aM (blk_grown (g:=gbz1) (o:=.cells #[.slice A0_0 l0_0.length c0_0,.int .i64 a0_1] 41 (0,0)) (bX BKz1.out) hg (Kd.R_ne HOz2.out BKz1.out (by decide)));replace BKz2:=aM (blk_grown (g:=gbz2) (o:=.cells #[.int .i64 a1_0,.int .i64 a1_1,.int .i64 a1_2] 69 (0,0)) (bX BKz2.out) hg (Kd.R_ne HOz2.out BKz2.out (by decide)));replace HOz1:=aM (Kd.R_after (ok:=(fun _=>True)) (rX HOz1.out) hg hat);replace HB:=aM (hb);clear HOz2;clear ho hb hg hat))
  go_ret2
  exact⟨_,rE,(rT (h:=by exact Kd.R_mono HOz3.out (fun _ hk=>trivial))),(hX HB.out)⟩
 revert H;refine eP ?_ ?_<;>intro c133b0 c133b1 H
 ·simp only[Option.some.injEq,Prod.mk.injEq] at H
  obtain⟨rfl,rfl⟩:=H
  try go_wp2_with (refine gB 160 12 Tryz.func160 (Xo.calls _ _ _ _ _ _ _ _ (rW HR0_0 HB HC0_0) A3.out) ?_;intro wz4 hb;replace HOz1:=aQ HOz1 hb;replace BKz1:=aB BKz1 hb;replace BKz2:=aB BKz2 hb;replace HB:=aS HB hb;clear hb;have hczz6:=cZ3 BKz2.out)
  replace HOz1:=aM (Kd.R_drew HOz1.out)
  replace BKz1:=aM (blk_drew BKz1.out)
  replace BKz2:=aM (blk_drew BKz2.out)
  replace HB:=aM (below_drew1 HB.out)
  refine start_ (n:=6) (S:=fun w'=>w'.cell? ⟨gbz1,0,none⟩=some (.slice A0_0 l0_0.length c0_0)∧w'.cell? ⟨gbz1,1,none⟩=some (.int .i64 a0_1)) (ds:=[]) (bm 6 0) (by kernel_rfl) rfl (by kernel_rfl) ⟨cK BKz1.out 0,cK BKz1.out 1⟩ (fun hHeld => ?_)
  generalize wz4.drew=wz5 at HOz1 BKz1 BKz2 HB hHeld ⊢
  refine pK 0 96 (bm 6 1) ?_
  refine pK 1 97 (bm 6 3) ?_
  refine pK 4 4 (bm 6 19) ?_
  refine tK 2 98 (bm 6 23) hHeld ?_
  refine pK 3 99 (bm 6 31) ?_
  refine pK 5 5 (bm 6 63) ?_
  refine done_ (by kernel_rfl) ?_
  try go_wp2
  go_ret2
  exact⟨_,rE,(rX HOz1.out),(hX HB.out)⟩
 revert H;refine eP ?_ ?_<;>intro c144b0 c144b1 H
 ·replace H:=bE H;obtain⟨t128,A145,H⟩:=H
  simp only[Option.some.injEq,Prod.mk.injEq] at H
  obtain⟨rfl,rfl⟩:=H
  go_wp2_with (first | (refine gB 160 12 Tryz.func160 (Xo.calls _ _ _ _ _ _ _ _ (rW HR0_0 HB HC0_0) A3.out) ?_;intro wz4 hb;replace HOz1:=aQ HOz1 hb;replace BKz1:=aB BKz1 hb;replace BKz2:=aB BKz2 hb;replace HB:=aS HB hb;clear hb;have hczz6:=cZ3 BKz2.out;have hczz9:=cZ2 BKz1.out) | (refine gD 43 105 Tryz.func43 (Xb.calls _ _ _ _ _ A145.out) ?_;intro nd))
  go_ret2
  exact⟨_,rE,(rX HOz1.out),(hX HB.out)⟩
 obtain⟨y129,hy129⟩:∃ y_:List Int,y_=(([t106]:List Int)):=⟨_,rfl⟩
 replace H:(if a0_1=5 then (some (y129,decide (t106 ≥ 0))) else (some (y129,false)))=some (r1,r2):=yH H hy129
 have Ny129:=aM hy129
 clear hy129
 go_wp2_with (first | (refine gB 160 12 Tryz.func160 (Xo.calls _ _ _ _ _ _ _ _ (rW HR0_0 HB HC0_0) A3.out) ?_;intro wz4 hb;replace HOz1:=aQ HOz1 hb;replace BKz1:=aB BKz1 hb;replace BKz2:=aB BKz2 hb;replace HB:=aS HB hb;clear hb;have hczz6:=cZ3 BKz2.out) | ((with_reducible refine gate_dst (N:=107) rfl ?_);refine Kd.R_lit (Kd.int .i64) _ 3 ?hg (N:=107) ?hd (xs:=([t106]:List Int)) (inner:=[.int .i64 t106]) (ok:=fun _=>True) (okp:=fun _=>True) ?hr ?hp (fun _ hk=>hk) trivial (Below.refl _ _) (Nat.le_refl _) (by simp) ?_;(case hd=>rfl);(case hg=>rfl);(case hr=>first | (go_simp;done) | (go_simp;rfl));(case hp=>exact(Reps.one (show Kd.M (Kd.int .i64) _ _ _ t106 [.int .i64 t106] from rfl) (Reps.none _ _)));intro vz2 wz5 hoz2 hb hg_ hnew_;clear hg_ hnew_;(first | rw[← Ny129.out] at hoz2 | (simp only[Int.reduceToNat] at hoz2;rw[← Ny129.out] at hoz2));have HOz2:=aM (Kd.R_lower (Kd.R_new' hoz2 (Kd.R_lt (rX HOz1.out))) (below_size (hX HB.out)));replace HOz1:=aM (Kd.R_elder' (rX HOz1.out) (Kd.R_base hoz2) hb);replace BKz1:=aB BKz1 hb;replace BKz2:=aB BKz2 hb;replace HB:=aS HB hb;clear hb hoz2;have hczz9:=cZ2 BKz1.out;refine Stop.out ?_))
 refine⟨?_⟩
 revert H;refine eN ?_ ?_<;>intro c156b0 c156b1 H
 ·simp only[Option.some.injEq,Prod.mk.injEq] at H
  obtain⟨rfl,rfl⟩:=H
  go_wp2
  go_ret2
  exact⟨_,rE,(rT (h:=by exact Kd.R_mono HOz2.out (fun _ hk=>trivial))),(hX HB.out)⟩
 simp only[Option.some.injEq,Prod.mk.injEq] at H
 obtain⟨rfl,rfl⟩:=H
 go_wp2
 go_ret2
 exact⟨_,rE,(rT (h:=by exact Kd.R_mono HOz2.out (fun _ hk=>trivial))),(hX HB.out)⟩
def XH.l0:Nat→List (S162)→Int→Int→Option (Int)
 | 0,_,_,_=>none
 | k+1,x0,x7,x8=>if x8<x7 then (if 0≤x8 then (if x8<(x0.length:Int) then ((XaS.f k ((rd_T162 x0 x8).f0) ((rd_T162 x0 x8).f1) ((rd_T162 x0 x8).f2) ((rd_T162 x0 x8).f3.f0) ((rd_T162 x0 x8).f3.f1)).bind fun t102=>(if t102=true then (some x8) else (XH.l0 k x0 x7 (wrap64 (x8+1))))) else (none)) else (none)) else (some (-1))
def XH.f (k:Nat) (l0:List (S162))  : Option (Int):=XH.l0 k l0 (l0.length:Int) 0
theorem XH.calls (k:Nat) (A0:Option Addr) (c0:Nat) (l0:List (S162)) (r:Int) (w:World) (h0:Rw k162 w A0 c0 l0) (H:XH.f k l0=some r) :
  Calls Tryz.prog 208 #[.slice A0 l0.length c0,.func (.func 170) #[] #[]] w fun e w'=>e = .returned (.int .i64 r)∧Below w.heap.size w w':=by
 have hu162:=Tryz.underlying162
 obtain⟨HR0,HC0⟩:=h0
 have HB:=aM (Below.refl w.heap.size w)
 unfold XH.f at H
 have H':=aM H
 clear H
 go_enter Tryz.func208,Tryz.ntmps208
 go_wp2
 go_loopg [8] k (fun kq v8 w'=>∃ (x8_1:Int),v8 = .int .i64 x8_1∧Aside0 (XH.l0 kq l0 (l0.length:Int) x8_1=some r)∧Aside0 (kq≤k)∧Aside0 (Below w.heap.size w w'))
 case atStart=>exact⟨(0),rS,H',⟨Nat.le_refl _⟩,⟨(hX HB.out)⟩⟩
 case round =>
  clear H'
  obtain⟨x8_1,rfl,HA,HKy1,HB⟩:=hrel
  cases gk with
  | zero=>exact absurd HA.out (by simp[XH.l0])
  | succ k1 =>
   have H:=HA.out
   clear HA
   simp only[XH.l0] at H
   revert H;refine iN ?_ ?_<;>intro c3b0 H
   ·obtain rfl:=sI H
    exact fS
   replace H:=ifQ H;obtain⟨c4b0,H⟩:=H
   replace H:=ifQ H;obtain⟨c5b0,H⟩:=H
   replace H:=bE H;obtain⟨t102,A6,H⟩:=H
   cases t102
   case true =>
    rw[if_pos rfl] at H
    obtain rfl:=sI H
    obtain⟨adx1,Ax1,cx1,Ax2,cx2,ex1,px1,qx1,hxx1,HCx1,HRx1,HCx2,HRx2⟩:=at_T162c HR0 HB x8_1
    cases ex1
    go_wp2_with ((with_reducible refine Go.Proofs.YtmljebgideecjaaGreatZ.gate_calleeT (t:=11) rfl ?_);refine Go.Proofs.YtmljebgideecjaaGreatZ.goesT_ (some 16) 11 rfl rfl Tryz.func170 (by kernel_rfl) rfl #[.agg #[.int .i64 ((rd_T162 l0 x8_1).f0),.int .i64 ((rd_T162 l0 x8_1).f1),.slice Ax1 ((rd_T162 l0 x8_1).f2).length cx1,.int .i64 ((rd_T162 l0 x8_1).f3.f0),.slice Ax2 ((rd_T162 l0 x8_1).f3.f1).length cx2]] rfl rfl (by (try simp only[List.map_toArray,List.map_cons,List.map_nil]);first | done | rfl | (simp only[List.length_drop,List.length_take];rfl)) ?_;refine(XaS.calls k1 ((rd_T162 l0 x8_1).f0) ((rd_T162 l0 x8_1).f1) _ _ ((rd_T162 l0 x8_1).f2) ((rd_T162 l0 x8_1).f3.f0) _ _ ((rd_T162 l0 x8_1).f3.f1) true _ (rW HRx1 HB HCx1) (rW HRx2 HB HCx2) A6.out).mono ?_;rintro e wx1 ⟨rfl,hb⟩;refine⟨_,rfl,?_⟩;replace HB:=aS HB hb;clear hb)
    go_ret
    exact⟨rE,(hX HB.out)⟩
   rw[if_neg nft] at H
   have H':=aM H
   clear H
   obtain⟨adx1,Ax1,cx1,Ax2,cx2,ex1,px1,qx1,hxx1,HCx1,HRx1,HCx2,HRx2⟩:=at_T162c HR0 HB x8_1
   cases ex1
   go_wp2_with ((with_reducible refine Go.Proofs.YtmljebgideecjaaGreatZ.gate_calleeT (t:=11) rfl ?_);refine Go.Proofs.YtmljebgideecjaaGreatZ.goesT_ (some 16) 11 rfl rfl Tryz.func170 (by kernel_rfl) rfl #[.agg #[.int .i64 ((rd_T162 l0 x8_1).f0),.int .i64 ((rd_T162 l0 x8_1).f1),.slice Ax1 ((rd_T162 l0 x8_1).f2).length cx1,.int .i64 ((rd_T162 l0 x8_1).f3.f0),.slice Ax2 ((rd_T162 l0 x8_1).f3.f1).length cx2]] rfl rfl (by (try simp only[List.map_toArray,List.map_cons,List.map_nil]);first | done | rfl | (simp only[List.length_drop,List.length_take];rfl)) ?_;refine(XaS.calls k1 ((rd_T162 l0 x8_1).f0) ((rd_T162 l0 x8_1).f1) _ _ ((rd_T162 l0 x8_1).f2) ((rd_T162 l0 x8_1).f3.f0) _ _ ((rd_T162 l0 x8_1).f3.f1) false _ (rW HRx1 HB HCx1) (rW HRx2 HB HCx2) A6.out).mono ?_;rintro e wx1 ⟨rfl,hb⟩;refine⟨_,rfl,?_⟩;replace HB:=aS HB hb;clear hb)
   go_roundg k1
   case measure=>have:=HKy1.out;omega
   case rel=>exact⟨(wrap64 (x8_1+1)),rS,H',⟨by have:=HKy1.out;omega⟩,⟨(hX HB.out)⟩⟩
def XS.l0:Nat→List (S69)→Int→Int→Option (Int)
 | 0,_,_,_=>none
 | k+1,x0,x7,x8=>if x8<x7 then (if 0≤x8 then (if x8<(x0.length:Int) then ((XaC.f k ((rd_T69 x0 x8).f0) ((rd_T69 x0 x8).f1) ((rd_T69 x0 x8).f2)).bind fun t102=>(if t102=true then (some x8) else (XS.l0 k x0 x7 (wrap64 (x8+1))))) else (none)) else (none)) else (some (-1))
def XS.f (k:Nat) (l0:List (S69))  : Option (Int):=XS.l0 k l0 (l0.length:Int) 0
theorem XS.calls (k:Nat) (A0:Option Addr) (c0:Nat) (l0:List (S69)) (r:Int) (w:World) (h0:Rw k69 w A0 c0 l0) (H:XS.f k l0=some r) :
  Calls Tryz.prog 210 #[.slice A0 l0.length c0,.func (.func 179) #[] #[]] w fun e w'=>e = .returned (.int .i64 r)∧Below w.heap.size w w':=by
 have hu69:=Tryz.underlying69
 obtain⟨HR0,HC0⟩:=h0
 have HB:=aM (Below.refl w.heap.size w)
 unfold XS.f at H
 have H':=aM H
 clear H
 go_enter Tryz.func210,Tryz.ntmps210
 go_wp2
 go_loopg [8] k (fun kq v8 w'=>∃ (x8_1:Int),v8 = .int .i64 x8_1∧Aside0 (XS.l0 kq l0 (l0.length:Int) x8_1=some r)∧Aside0 (kq≤k)∧Aside0 (Below w.heap.size w w'))
 case atStart=>exact⟨(0),rS,H',⟨Nat.le_refl _⟩,⟨(hX HB.out)⟩⟩
 case round =>
  clear H'
  obtain⟨x8_1,rfl,HA,HKy1,HB⟩:=hrel
  cases gk with
  | zero=>exact absurd HA.out (by simp[XS.l0])
  | succ k1 =>
   have H:=HA.out
   clear HA
   simp only[XS.l0] at H
   revert H;refine iN ?_ ?_<;>intro c3b0 H
   ·obtain rfl:=sI H
    exact fS
   replace H:=ifQ H;obtain⟨c4b0,H⟩:=H
   replace H:=ifQ H;obtain⟨c5b0,H⟩:=H
   replace H:=bE H;obtain⟨t102,A6,H⟩:=H
   cases t102
   case true =>
    rw[if_pos rfl] at H
    obtain rfl:=sI H
    obtain⟨adx1,ex1,px1,qx1,hxx1⟩:=at_T69c HR0 HB x8_1
    cases ex1
    go_wp2_with ((with_reducible refine Go.Proofs.YtmljebgideecjaaGreatZ.gate_calleeT (t:=11) rfl ?_);refine Go.Proofs.YtmljebgideecjaaGreatZ.goesT_ (some 16) 11 rfl rfl Tryz.func179 (by kernel_rfl) rfl #[.agg #[.int .i64 ((rd_T69 l0 x8_1).f0),.int .i64 ((rd_T69 l0 x8_1).f1),.int .i64 ((rd_T69 l0 x8_1).f2)]] rfl rfl (by (try simp only[List.map_toArray,List.map_cons,List.map_nil]);first | done | rfl | (simp only[List.length_drop,List.length_take];rfl)) ?_;(with_reducible refine(XaC.calls _ _ _ _ _ _ A6.out).mono ?_);rintro e wx1 ⟨rfl,hb⟩;refine⟨_,rfl,?_⟩;replace HB:=aS HB hb;clear hb)
    go_ret
    exact⟨rE,(hX HB.out)⟩
   rw[if_neg nft] at H
   have H':=aM H
   clear H
   obtain⟨adx1,ex1,px1,qx1,hxx1⟩:=at_T69c HR0 HB x8_1
   cases ex1
   go_wp2_with ((with_reducible refine Go.Proofs.YtmljebgideecjaaGreatZ.gate_calleeT (t:=11) rfl ?_);refine Go.Proofs.YtmljebgideecjaaGreatZ.goesT_ (some 16) 11 rfl rfl Tryz.func179 (by kernel_rfl) rfl #[.agg #[.int .i64 ((rd_T69 l0 x8_1).f0),.int .i64 ((rd_T69 l0 x8_1).f1),.int .i64 ((rd_T69 l0 x8_1).f2)]] rfl rfl (by (try simp only[List.map_toArray,List.map_cons,List.map_nil]);first | done | rfl | (simp only[List.length_drop,List.length_take];rfl)) ?_;(with_reducible refine(XaC.calls _ _ _ _ _ _ A6.out).mono ?_);rintro e wx1 ⟨rfl,hb⟩;refine⟨_,rfl,?_⟩;replace HB:=aS HB hb;clear hb)
   go_roundg k1
   case measure=>have:=HKy1.out;omega
   case rel=>exact⟨(wrap64 (x8_1+1)),rS,H',⟨by have:=HKy1.out;omega⟩,⟨(hX HB.out)⟩⟩
def Xav.f (k:Nat) (l0:List (S172))  : Option (Bool):=(XG.f k l0).bind fun t101=>(some (decide (t101 ≥ 0)))
theorem Xav.calls (k:Nat) (A0:Option Addr) (c0:Nat) (l0:List (S172)) (r:Bool) (w:World) (h0:Rw k172 w A0 c0 l0) (H:Xav.f k l0=some r) :
  Calls Tryz.prog 180 #[.slice A0 l0.length c0,.func (.func 181) #[] #[]] w fun e w'=>e = .returned (.bool r)∧Below w.heap.size w w':=by
 obtain⟨HR0,HC0⟩:=h0
 have HB:=aM (Below.refl w.heap.size w)
 unfold Xav.f at H
 replace H:=bE H;obtain⟨t101,A3,H⟩:=H
 obtain rfl:=sI H
 go_enter Tryz.func180,Tryz.ntmps180
 go_wp2_with (refine gB 211 7 Tryz.func211 (XG.calls _ _ _ _ _ _ (rw2 (cX HR0.out) HC0.out) A3.out) ?_;intro wz1 hb;replace HB:=aS HB hb;clear hb)
 go_ret
 exact⟨rE,(hX HB.out)⟩
end Go.Proofs.YtmljebgideecjaaGreat.P2
