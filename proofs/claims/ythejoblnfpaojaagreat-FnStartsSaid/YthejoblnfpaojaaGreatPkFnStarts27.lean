/- A part of the proof of the law FnStarts: texts of this seat, merged (words, printed functions of the program, plain lemmas). Conditions: none of its own. -/
import Derived.Test.YthejoblnfpaojaaGreatPkFnStarts23
set_option linter.unusedSimpArgs false
set_option linter.unusedVariables false
set_option maxHeartbeats 8000000
set_option maxRecDepth 100000
namespace Go.Proofs.YthejoblnfpaojaaGreat.P
open Go.Proofs.YthejoblnfpaojaaGreatZ Go.RowKit Go.Proofs.YthejoblnfpaojaaGreatW.PrintWords Go.Proofs.YthejoblnfpaojaaGreatW.PrintLast Go.Proofs.YthejoblnfpaojaaGreatW.PrintMore
attribute [local go_sem] max2_int min2_int max_two min_two max_three min_three max_four min_four   -- for this text's walks alone
def Xn.f (k:Nat) (l0_0:List Int) (a0_1:Int) (a1_0:Int) (a1_1:Int) (a1_2:Int):Option (List Int × Bool):=(X2.f k l0_0 a0_1 a1_2).bind fun t103=>(if a1_0=1 then (if 0≤a1_1 then (if a1_1<(l0_0.length:Int) then (if (rd l0_0 a1_1)=0 then (some (([]:List Int),decide (t103<0))) else (some (([]:List Int),false))) else (none)) else (none)) else (if a1_0=2 then (if 0≤a1_1 then (if a1_1<(l0_0.length:Int) then (if (rd l0_0 a1_1)=0 then (some (([]:List Int),false)) else (if t103<0 then (some (([]:List Int),true)) else (some (([]:List Int),(t103 == a1_1))))) else (none)) else (none)) else (if a1_0=3 then (if 0≤a1_1 then (if a1_1<(l0_0.length:Int) then (some (([]:List Int),((rd l0_0 a1_1) != 0))) else (none)) else (none)) else (if a1_0=4 then (if 0≤a1_1 then (if a1_1<(l0_0.length:Int) then (some ((([rd l0_0 a1_1]:List Int)),((rd l0_0 a1_1) != 0))) else (none)) else (none)) else (if a1_0=5 then (some ((([t103]:List Int)),decide (t103 ≥ 0))) else (if a1_0=6 then ((Xac.f k l0_0 a0_1 a1_1).bind fun t115=>(some ((([t115]:List Int)),true))) else (if a1_0=7 then (some (l0_0,true)) else (if a1_0=8 then (some (([]:List Int),(a0_1 == 0))) else (if a1_0=9 then (if a0_1=0 then (some (([]:List Int),false)) else ((Xaj.f l0_0 a0_1).bind fun t119=>(some (([]:List Int),!t119)))) else ((some (([t103]:List Int):List Int)).bind fun y120=>(if t103 ≥ 0 then ((Xaj.f l0_0 a0_1).bind fun t123=>(some (y120,t123))) else (some (y120,false)))))))))))))
def Xn.T6:Bool × List (List Nat × List Nat):=(true,[([],[]),([0],[0]),([],[]),([2],[2]),([1,3],[1,3]),([4],[4]),([5],[5]),([6],[6]),([7],[7]),([8,7],[7,8]),([9,7,7],[7,9]),([10],[10]),([10],[10]),([12,10],[10,12]),([11,13,10],[10,11,13]),([10,14,7],[7,10,14]),([7,15],[7,15]),([10],[]),([16,17,0,1,2,3,4,5,6,7,8,9,10,11,12,13,14,15,16,17],[16])])
def Xn.B6:List Nat:=[0,1,0,4,15,31,63,127,255,511,1023,2047,2047,6143,16383,32767,65535,2047,262143]
theorem Xn.tab6:rtab .any (opsOf Tryz.f151 6)=Xn.T6:=by kernel_rfl
theorem Xn.bits6:waitsOk Xn.T6.2 Xn.B6=true:=by kernel_rfl
def Xn.T8:Bool × List (List Nat × List Nat):=(true,[([],[]),([0],[0]),([],[]),([2],[2]),([1,3],[1,3]),([4],[4]),([5],[5]),([],[]),([6,7,0,1,2,3,4,5,6,7],[6])])
def Xn.B8:List Nat:=[0,1,0,4,15,31,63,0,255]
theorem Xn.tab8:rtab .any (opsOf Tryz.f151 8)=Xn.T8:=by kernel_rfl
theorem Xn.bits8:waitsOk Xn.T8.2 Xn.B8=true:=by kernel_rfl
def Xn.T10:Bool × List (List Nat × List Nat):=(true,[([],[]),([0],[0]),([],[]),([2],[2]),([1,3],[1,3]),([4],[4]),([5],[5]),([],[]),([7],[7]),([],[]),([9],[9]),([8,10],[8,10]),([11],[11]),([12],[12]),([6,0,1,2,3,4,5,6],[6]),([13,14,0,1,2,3,4,5,6,7,8,9,10,11,12,13,14],[13])])
def Xn.B10:List Nat:=[0,1,0,4,15,31,63,0,128,0,512,1920,3968,8064,127,32767]
theorem Xn.tab10:rtab .any (opsOf Tryz.f151 10)=Xn.T10:=by kernel_rfl
theorem Xn.bits10:waitsOk Xn.T10.2 Xn.B10=true:=by kernel_rfl
theorem Xn.calls (k:Nat) (P0_0_:Nat→Prop) (A0_0:Option Addr) (c0_0:Nat) (l0_0:List Int) (a0_1:Int) (a1_0:Int) (a1_1:Int) (a1_2:Int) (r1:List Int) (r2:Bool) (w:World) (hs0_0:Kd.V (Kd.int .i64) 3 w w.heap.size (fun k_=>P0_0_ k_) (.slice A0_0 l0_0.length c0_0) l0_0) (h:Xn.f k l0_0 a0_1 a1_0 a1_1 a1_2=some (r1,r2)) :
  Calls Tryz.prog 151 #[.agg #[.slice A0_0 l0_0.length c0_0,.int .i64 a0_1],.agg #[.int .i64 a1_0,.int .i64 a1_1,.int .i64 a1_2]] w fun e w'=>∃ v0_:Value,e = .returned (.tuple #[v0_,.bool r2])∧Kd.V (Kd.int .i64) 3 w' w.heap.size (fun k_=>(P0_0_ k_ ∨ w.heap.size≤k_)) v0_ r1∧Below w.heap.size w w':=by
 have hu26:=Tryz.underlying26
 have hu78:=Tryz.underlying78
 have HO0_0:=aM (show Kd.V (Kd.int .i64) 3 w w.heap.size (fun k_=>(P0_0_ k_ ∨ w.heap.size≤k_)) (.slice A0_0 l0_0.length c0_0) l0_0 from Kd.V_mono hs0_0 (fun k_ hk => .inl hk))
 have HB:=aM (Below.refl w.heap.size w)
 have H:=h
 unfold Xn.f at H
 clear h
 replace H:=bE H;obtain⟨t103,A3,H⟩:=H
 go_enter Tryz.func151,Tryz.ntmps151
 go_wp2_with (first | (refine boxE 2 #[.slice A0_0 l0_0.length c0_0,.int .i64 a0_1] 26 ?_;intro gbz1 hg wz1 hbox hb;have BKz1:=aM (hbox);have GWz1:=aG hg HB;replace HO0_0:=aM (Kd.V_below (Kd.V_elderB (vX HO0_0.out) gbz1 (Nat.le_of_eq hg.symm)) hb);replace HB:=aS HB hb;clear hb hbox hg) | (refine boxE 3 #[.int .i64 a1_0,.int .i64 a1_1,.int .i64 a1_2] 78 ?_;intro gbz2 hg wz2 hbox hb;have BKz2:=aM (hbox);have GWz2:=aG hg HB;have NBz1:=aL hg BKz1;have NBz2:=aR hg BKz1;replace HO0_0:=aM (Kd.V_below (Kd.V_elderB (vX HO0_0.out) gbz2 (Nat.le_of_eq hg.symm)) hb);replace BKz1:=aB BKz1 hb;replace HB:=aS HB hb;clear hb hbox hg;have hnbz1:=nB NBz1 NBz2;have hczz1:=cZ2 BKz1.out;have hczz3:=cZ3 BKz2.out;refine Stop.out ?_))
 refine⟨?_⟩
 revert H;refine eP ?_ ?_<;>intro c4b0 c4b1 H
 ·replace H:=ifP H;obtain⟨c5,H⟩:=H
  have c5b0:=decide_eq_true c5
  clear c5
  replace H:=ifQ H;obtain⟨c6b0,H⟩:=H
  go_wp2_with (refine gB 197 10 Tryz.func197 (X2.calls _ _ _ _ _ _ _ _ (rw2 (cX (Kd.V_reads' HO0_0.out).2.2) ((Kd.V_reads' HO0_0.out).2.1)) A3.out) ?_;intro wz3 hb;replace HO0_0:=aM (Kd.V_below (vX HO0_0.out) hb);replace BKz1:=aB BKz1 hb;replace BKz2:=aB BKz2 hb;replace HB:=aS HB hb;clear hb;have hczz6:=cZ3 BKz2.out;have hczz9:=cZ2 BKz1.out;have pz1:0≤(a1_1:Int):=odA;have qz1:a1_1<(l0_0.length:Int):=odA;obtain⟨adz1,ez1,hxz1⟩:=Kd.at_int (Kd.V_reads' HO0_0.out).2.2 a1_1 pz1 qz1;cases ez1;replace pz1:=eq_true pz1;replace qz1:=eq_true qz1;refine Stop.out ?_)
  refine⟨?_⟩
  revert H;refine eN ?_ ?_<;>intro c7b0 c7b1 H
  ·simp only[Option.some.injEq,Prod.mk.injEq] at H
   obtain⟨rfl,rfl⟩:=H
   go_wp2
   go_ret2
   exact⟨(Value.slice none 0 0),rE,(by first | exact Kd.R_nil _ _ _ _ _ | exact Kd.S_nil _ _ _ _ _ | exact Kd.V_nil _ _ _ _ _ | exact Kd.N_nil _ _ _ _ _ | exact Kd.Q_nil _ _ _ _ _),(hX HB.out)⟩
  simp only[Option.some.injEq,Prod.mk.injEq] at H
  obtain⟨rfl,rfl⟩:=H
  go_wp2
  go_ret2
  exact⟨(Value.slice none 0 0),rE,(by first | exact Kd.R_nil _ _ _ _ _ | exact Kd.S_nil _ _ _ _ _ | exact Kd.V_nil _ _ _ _ _ | exact Kd.N_nil _ _ _ _ _ | exact Kd.Q_nil _ _ _ _ _),(hX HB.out)⟩
 revert H;refine eP ?_ ?_<;>intro c24b0 c24b1 H
 ·replace H:=ifP H;obtain⟨c25,H⟩:=H
  have c25b0:=decide_eq_true c25
  clear c25
  replace H:=ifQ H;obtain⟨c26b0,H⟩:=H
  go_wp2_with (refine gB 197 10 Tryz.func197 (X2.calls _ _ _ _ _ _ _ _ (rw2 (cX (Kd.V_reads' HO0_0.out).2.2) ((Kd.V_reads' HO0_0.out).2.1)) A3.out) ?_;intro wz3 hb;replace HO0_0:=aM (Kd.V_below (vX HO0_0.out) hb);replace BKz1:=aB BKz1 hb;replace BKz2:=aB BKz2 hb;replace HB:=aS HB hb;clear hb;have hczz6:=cZ3 BKz2.out;refine Stop.out ?_)
  refine⟨?_⟩
  revert H;refine eP ?_ ?_<;>intro c27b0 c27b1 H
  ·simp only[Option.some.injEq,Prod.mk.injEq] at H
   obtain⟨rfl,rfl⟩:=H
   try go_wp2
   replace HO0_0:=aM (Kd.V_drew HO0_0.out)
   replace BKz1:=aM (blk_drew BKz1.out)
   replace BKz2:=aM (blk_drew BKz2.out)
   replace HB:=aM (below_drew1 HB.out)
   have pz1:0≤(a1_1:Int):=odA
   have qz1:a1_1<(l0_0.length:Int):=odA
   obtain⟨adz1,ez1,hxz1⟩:=Kd.at_int (Kd.V_reads' HO0_0.out).2.2 a1_1 pz1 qz1
   cases ez1
   replace pz1:=eq_true pz1
   replace qz1:=eq_true qz1
   refine start_ (n:=19) (S:=fun w'=>w'.cell? ⟨gbz1,0,none⟩=some (.slice (some adz1) l0_0.length c0_0)∧w'.cell? ⟨gbz1,1,none⟩=some (.int .i64 a0_1)∧w'.cell? ⟨gbz2,0,none⟩=some (.int .i64 a1_0)∧w'.cell? ⟨gbz2,1,none⟩=some (.int .i64 a1_1)∧w'.cell? ⟨gbz2,2,none⟩=some (.int .i64 a1_2)∧w'.cell? (adz1.add (a1_1).toNat)=some (.int .i64 (rd l0_0 a1_1))) (ds:=[]) (bm 19 0) (by kernel_rfl) rfl (by kernel_rfl) ⟨cK BKz1.out 0,cK BKz1.out 1,cK BKz2.out 0,cK BKz2.out 1,cK BKz2.out 2,hxz1⟩ (fun hHeld => ?_);refine with_tabW Xn.tab6 Xn.bits6 (fun HT_ HW_ => ?_)
   generalize wz3.drew=wz4 at HO0_0 BKz1 BKz2 HB hxz1 hHeld ⊢
   refine pZ 0 28 (bm 19 1) HT_.out ?_
   refine pZ 2 30 (bm 19 5) HT_.out ?_
   refine tZ 1 29 (bm 19 7) HT_.out HW_.out hHeld ?_
   refine tZ 3 31 (bm 19 15) HT_.out HW_.out hHeld ?_
   refine pZ 4 32 (bm 19 31) HT_.out ?_
   refine tZ 5 33 (bm 19 63) HT_.out HW_.out hHeld ?_
   refine pZ 6 34 (bm 19 127) HT_.out ?_
   refine pZ 7 35 (bm 19 255) HT_.out ?_
   refine pU 8 36 (bm 19 511) HT_.out ?_
   refine pU 9 37 (bm 19 1023) HT_.out ?_
   refine pU 10 38 (bm 19 2047) HT_.out ?_
   refine pU 11 39 (bm 19 4095) HT_.out ?_
   refine pU 12 40 (bm 19 8191) HT_.out ?_
   refine pU 13 41 (bm 19 16383) HT_.out ?_
   refine pU 14 42 (bm 19 32767) HT_.out ?_
   refine pU 15 43 (bm 19 65535) HT_.out ?_
   refine pZ 16 44 (bm 19 131071) HT_.out ?_
   refine pZ 17 4 (bm 19 262143) HT_.out ?_
   refine pZ 18 5 (bm 19 524287) HT_.out ?_
   refine done_ (done_of HT_.out (by kernel_rfl)) ?_
   try go_wp2
   go_ret2
   exact⟨(Value.slice none 0 0),rE,(by first | exact Kd.R_nil _ _ _ _ _ | exact Kd.S_nil _ _ _ _ _ | exact Kd.V_nil _ _ _ _ _ | exact Kd.N_nil _ _ _ _ _ | exact Kd.Q_nil _ _ _ _ _),(hX HB.out)⟩
  revert H;refine iP ?_ ?_<;>intro c36b0 H
  ·simp only[Option.some.injEq,Prod.mk.injEq] at H
   obtain⟨rfl,rfl⟩:=H
   try go_wp2
   replace HO0_0:=aM (Kd.V_drew HO0_0.out)
   replace BKz1:=aM (blk_drew BKz1.out)
   replace BKz2:=aM (blk_drew BKz2.out)
   replace HB:=aM (below_drew1 HB.out)
   have pz1:0≤(a1_1:Int):=odA
   have qz1:a1_1<(l0_0.length:Int):=odA
   obtain⟨adz1,ez1,hxz1⟩:=Kd.at_int (Kd.V_reads' HO0_0.out).2.2 a1_1 pz1 qz1
   cases ez1
   replace pz1:=eq_true pz1
   replace qz1:=eq_true qz1
   refine start_ (n:=19) (S:=fun w'=>w'.cell? ⟨gbz1,0,none⟩=some (.slice (some adz1) l0_0.length c0_0)∧w'.cell? ⟨gbz1,1,none⟩=some (.int .i64 a0_1)∧w'.cell? ⟨gbz2,0,none⟩=some (.int .i64 a1_0)∧w'.cell? ⟨gbz2,1,none⟩=some (.int .i64 a1_1)∧w'.cell? ⟨gbz2,2,none⟩=some (.int .i64 a1_2)∧w'.cell? (adz1.add (a1_1).toNat)=some (.int .i64 (rd l0_0 a1_1))) (ds:=[]) (bm 19 0) (by kernel_rfl) rfl (by kernel_rfl) ⟨cK BKz1.out 0,cK BKz1.out 1,cK BKz2.out 0,cK BKz2.out 1,cK BKz2.out 2,hxz1⟩ (fun hHeld => ?_);refine with_tabW Xn.tab6 Xn.bits6 (fun HT_ HW_ => ?_)
   generalize wz3.drew=wz4 at HO0_0 BKz1 BKz2 HB hxz1 hHeld ⊢
   refine pZ 0 28 (bm 19 1) HT_.out ?_
   refine pZ 2 30 (bm 19 5) HT_.out ?_
   refine tZ 1 29 (bm 19 7) HT_.out HW_.out hHeld ?_
   refine tZ 3 31 (bm 19 15) HT_.out HW_.out hHeld ?_
   refine pZ 4 32 (bm 19 31) HT_.out ?_
   refine tZ 5 33 (bm 19 63) HT_.out HW_.out hHeld ?_
   refine pZ 6 34 (bm 19 127) HT_.out ?_
   refine pZ 7 35 (bm 19 255) HT_.out ?_
   refine pZ 8 36 (bm 19 511) HT_.out ?_
   refine pZ 9 37 (bm 19 1023) HT_.out ?_
   refine pZ 10 38 (bm 19 2047) HT_.out ?_
   refine pU 11 39 (bm 19 4095) HT_.out ?_
   refine pU 12 40 (bm 19 8191) HT_.out ?_
   refine pU 13 41 (bm 19 16383) HT_.out ?_
   refine pU 14 42 (bm 19 32767) HT_.out ?_
   refine pZ 15 43 (bm 19 65535) HT_.out ?_
   refine pZ 16 44 (bm 19 131071) HT_.out ?_
   refine pZ 17 4 (bm 19 262143) HT_.out ?_
   refine pZ 18 5 (bm 19 524287) HT_.out ?_
   refine done_ (done_of HT_.out (by kernel_rfl)) ?_
   try go_wp2
   go_ret2
   exact⟨(Value.slice none 0 0),rE,(by first | exact Kd.R_nil _ _ _ _ _ | exact Kd.S_nil _ _ _ _ _ | exact Kd.V_nil _ _ _ _ _ | exact Kd.N_nil _ _ _ _ _ | exact Kd.Q_nil _ _ _ _ _),(hX HB.out)⟩
  simp only[Option.some.injEq,Prod.mk.injEq] at H
  obtain⟨rfl,rfl⟩:=H
  try go_wp2
  replace HO0_0:=aM (Kd.V_drew HO0_0.out)
  replace BKz1:=aM (blk_drew BKz1.out)
  replace BKz2:=aM (blk_drew BKz2.out)
  replace HB:=aM (below_drew1 HB.out)
  have pz1:0≤(a1_1:Int):=odA
  have qz1:a1_1<(l0_0.length:Int):=odA
  obtain⟨adz1,ez1,hxz1⟩:=Kd.at_int (Kd.V_reads' HO0_0.out).2.2 a1_1 pz1 qz1
  cases ez1
  replace pz1:=eq_true pz1
  replace qz1:=eq_true qz1
  refine start_ (n:=19) (S:=fun w'=>w'.cell? ⟨gbz1,0,none⟩=some (.slice (some adz1) l0_0.length c0_0)∧w'.cell? ⟨gbz1,1,none⟩=some (.int .i64 a0_1)∧w'.cell? ⟨gbz2,0,none⟩=some (.int .i64 a1_0)∧w'.cell? ⟨gbz2,1,none⟩=some (.int .i64 a1_1)∧w'.cell? ⟨gbz2,2,none⟩=some (.int .i64 a1_2)∧w'.cell? (adz1.add (a1_1).toNat)=some (.int .i64 (rd l0_0 a1_1))) (ds:=[]) (bm 19 0) (by kernel_rfl) rfl (by kernel_rfl) ⟨cK BKz1.out 0,cK BKz1.out 1,cK BKz2.out 0,cK BKz2.out 1,cK BKz2.out 2,hxz1⟩ (fun hHeld => ?_);refine with_tabW Xn.tab6 Xn.bits6 (fun HT_ HW_ => ?_)
  generalize wz3.drew=wz4 at HO0_0 BKz1 BKz2 HB hxz1 hHeld ⊢
  refine pZ 0 28 (bm 19 1) HT_.out ?_
  refine pZ 2 30 (bm 19 5) HT_.out ?_
  refine tZ 1 29 (bm 19 7) HT_.out HW_.out hHeld ?_
  refine tZ 3 31 (bm 19 15) HT_.out HW_.out hHeld ?_
  refine pZ 4 32 (bm 19 31) HT_.out ?_
  refine tZ 5 33 (bm 19 63) HT_.out HW_.out hHeld ?_
  refine pZ 6 34 (bm 19 127) HT_.out ?_
  refine pZ 7 35 (bm 19 255) HT_.out ?_
  refine pZ 8 36 (bm 19 511) HT_.out ?_
  refine pZ 9 37 (bm 19 1023) HT_.out ?_
  refine pZ 10 38 (bm 19 2047) HT_.out ?_
  refine pZ 11 39 (bm 19 4095) HT_.out ?_
  refine pZ 12 40 (bm 19 8191) HT_.out ?_
  refine pZ 17 4 (bm 19 139263) HT_.out ?_
  refine tZ 13 41 (bm 19 147455) HT_.out HW_.out hHeld ?_
  refine pZ 14 42 (bm 19 163839) HT_.out ?_
  refine pZ 15 43 (bm 19 196607) HT_.out ?_
  refine pZ 16 44 (bm 19 262143) HT_.out ?_
  refine pZ 18 5 (bm 19 524287) HT_.out ?_
  refine done_ (done_of HT_.out (by kernel_rfl)) ?_
  try go_wp2
  go_ret2
  exact⟨(Value.slice none 0 0),rE,(by first | exact Kd.R_nil _ _ _ _ _ | exact Kd.S_nil _ _ _ _ _ | exact Kd.V_nil _ _ _ _ _ | exact Kd.N_nil _ _ _ _ _ | exact Kd.Q_nil _ _ _ _ _),(hX HB.out)⟩
 revert H;refine eP ?_ ?_<;>intro c53b0 c53b1 H
 ·replace H:=ifP H;obtain⟨c54,H⟩:=H
  have c54b0:=decide_eq_true c54
  clear c54
  replace H:=ifQ H;obtain⟨c55b0,H⟩:=H
  simp only[Option.some.injEq,Prod.mk.injEq] at H
  obtain⟨rfl,rfl⟩:=H
  try go_wp2_with (refine gB 197 10 Tryz.func197 (X2.calls _ _ _ _ _ _ _ _ (rw2 (cX (Kd.V_reads' HO0_0.out).2.2) ((Kd.V_reads' HO0_0.out).2.1)) A3.out) ?_;intro wz3 hb;replace HO0_0:=aM (Kd.V_below (vX HO0_0.out) hb);replace BKz1:=aB BKz1 hb;replace BKz2:=aB BKz2 hb;replace HB:=aS HB hb;clear hb;have hczz6:=cZ3 BKz2.out)
  replace HO0_0:=aM (Kd.V_drew HO0_0.out)
  replace BKz1:=aM (blk_drew BKz1.out)
  replace BKz2:=aM (blk_drew BKz2.out)
  replace HB:=aM (below_drew1 HB.out)
  have pz1:0≤(a1_1:Int):=odA
  have qz1:a1_1<(l0_0.length:Int):=odA
  obtain⟨adz1,ez1,hxz1⟩:=Kd.at_int (Kd.V_reads' HO0_0.out).2.2 a1_1 pz1 qz1
  cases ez1
  replace pz1:=eq_true pz1
  replace qz1:=eq_true qz1
  refine start_ (n:=9) (S:=fun w'=>w'.cell? ⟨gbz1,0,none⟩=some (.slice (some adz1) l0_0.length c0_0)∧w'.cell? ⟨gbz1,1,none⟩=some (.int .i64 a0_1)∧w'.cell? ⟨gbz2,0,none⟩=some (.int .i64 a1_0)∧w'.cell? ⟨gbz2,1,none⟩=some (.int .i64 a1_1)∧w'.cell? ⟨gbz2,2,none⟩=some (.int .i64 a1_2)∧w'.cell? (adz1.add (a1_1).toNat)=some (.int .i64 (rd l0_0 a1_1))) (ds:=[]) (bm 9 0) (by kernel_rfl) rfl (by kernel_rfl) ⟨cK BKz1.out 0,cK BKz1.out 1,cK BKz2.out 0,cK BKz2.out 1,cK BKz2.out 2,hxz1⟩ (fun hHeld => ?_);refine with_tabW Xn.tab8 Xn.bits8 (fun HT_ HW_ => ?_)
  generalize wz3.drew=wz4 at HO0_0 BKz1 BKz2 HB hxz1 hHeld ⊢
  refine pZ 0 47 (bm 9 1) HT_.out ?_
  refine pZ 2 49 (bm 9 5) HT_.out ?_
  refine pZ 7 4 (bm 9 133) HT_.out ?_
  refine tZ 1 48 (bm 9 135) HT_.out HW_.out hHeld ?_
  refine tZ 3 50 (bm 9 143) HT_.out HW_.out hHeld ?_
  refine pZ 4 51 (bm 9 159) HT_.out ?_
  refine tZ 5 52 (bm 9 191) HT_.out HW_.out hHeld ?_
  refine pZ 6 53 (bm 9 255) HT_.out ?_
  refine pZ 8 5 (bm 9 511) HT_.out ?_
  refine done_ (done_of HT_.out (by kernel_rfl)) ?_
  try go_wp2
  go_ret2
  exact⟨(Value.slice none 0 0),rE,(by first | exact Kd.R_nil _ _ _ _ _ | exact Kd.S_nil _ _ _ _ _ | exact Kd.V_nil _ _ _ _ _ | exact Kd.N_nil _ _ _ _ _ | exact Kd.Q_nil _ _ _ _ _),(hX HB.out)⟩
 revert H;refine eP ?_ ?_<;>intro c64b0 c64b1 H
 ·replace H:=ifP H;obtain⟨c65,H⟩:=H
  have c65b0:=decide_eq_true c65
  clear c65
  replace H:=ifQ H;obtain⟨c66b0,H⟩:=H
  obtain⟨y108,hy108⟩:∃ y_:List Int,y_=(([rd l0_0 a1_1]:List Int)):=⟨_,rfl⟩
  replace H:(some (y108,((rd l0_0 a1_1) != 0)))=some (r1,r2):=yH H hy108
  have Ny108:=aM hy108
  clear hy108
  simp only[Option.some.injEq,Prod.mk.injEq] at H
  obtain⟨rfl,rfl⟩:=H
  try go_wp2_with (refine gB 197 10 Tryz.func197 (X2.calls _ _ _ _ _ _ _ _ (rw2 (cX (Kd.V_reads' HO0_0.out).2.2) ((Kd.V_reads' HO0_0.out).2.1)) A3.out) ?_;intro wz3 hb;replace HO0_0:=aM (Kd.V_below (vX HO0_0.out) hb);replace BKz1:=aB BKz1 hb;replace BKz2:=aB BKz2 hb;replace HB:=aS HB hb;clear hb;have hczz6:=cZ3 BKz2.out)
  replace HO0_0:=aM (Kd.V_drew HO0_0.out)
  replace BKz1:=aM (blk_drew BKz1.out)
  replace BKz2:=aM (blk_drew BKz2.out)
  replace HB:=aM (below_drew1 HB.out)
  have pz1:0≤(a1_1:Int):=odA
  have qz1:a1_1<(l0_0.length:Int):=odA
  obtain⟨adz1,ez1,hxz1⟩:=Kd.at_int (Kd.V_reads' HO0_0.out).2.2 a1_1 pz1 qz1
  cases ez1
  replace pz1:=eq_true pz1
  replace qz1:=eq_true qz1
  have pz2:0≤(a1_1:Int):=odA
  have qz2:a1_1<(l0_0.length:Int):=odA
  obtain⟨adz2,ez2,hxz2⟩:=Kd.at_int (Kd.V_reads' HO0_0.out).2.2 a1_1 pz2 qz2
  obtain rfl:adz1=adz2:=(by injection ez2)
  replace pz2:=eq_true pz2
  replace qz2:=eq_true qz2
  refine start_ (n:=16) (S:=fun w'=>w'.cell? ⟨gbz1,0,none⟩=some (.slice (some adz1) l0_0.length c0_0)∧w'.cell? ⟨gbz1,1,none⟩=some (.int .i64 a0_1)∧w'.cell? ⟨gbz2,0,none⟩=some (.int .i64 a1_0)∧w'.cell? ⟨gbz2,1,none⟩=some (.int .i64 a1_1)∧w'.cell? ⟨gbz2,2,none⟩=some (.int .i64 a1_2)∧w'.cell? (adz1.add (a1_1).toNat)=some (.int .i64 (rd l0_0 a1_1))∧w'.cell? (adz1.add (a1_1).toNat)=some (.int .i64 (rd l0_0 a1_1))) (ds:=[]) (bm 16 0) (by kernel_rfl) rfl (by kernel_rfl) ⟨cK BKz1.out 0,cK BKz1.out 1,cK BKz2.out 0,cK BKz2.out 1,cK BKz2.out 2,hxz1,hxz2⟩ (fun hHeld => ?_);refine with_tabW Xn.tab10 Xn.bits10 (fun HT_ HW_ => ?_)
  generalize wz3.drew=wz4 at HO0_0 BKz1 BKz2 HB hxz1 hxz2 hHeld ⊢
  refine pZ 0 56 (bm 16 1) HT_.out ?_
  refine pZ 2 58 (bm 16 5) HT_.out ?_
  refine pZ 7 63 (bm 16 133) HT_.out ?_
  refine pZ 9 65 (bm 16 645) HT_.out ?_
  refine tZ 1 57 (bm 16 647) HT_.out HW_.out hHeld ?_
  refine tZ 3 59 (bm 16 655) HT_.out HW_.out hHeld ?_
  refine pZ 4 60 (bm 16 671) HT_.out ?_
  refine tZ 5 61 (bm 16 703) HT_.out HW_.out hHeld ?_
  refine tZ 8 64 (bm 16 959) HT_.out HW_.out hHeld ?_
  refine tZ 10 66 (bm 16 1983) HT_.out HW_.out hHeld ?_
  refine pZ 11 67 (bm 16 4031) HT_.out ?_
  refine tZ 12 68 (bm 16 8127) HT_.out HW_.out hHeld ?_
  refine pZ 13 69 (bm 16 16319) HT_.out ?_
  refine oZ 6 (some 62) (bm 16 16383) HT_.out (fun K hK => ?_)
  refine Kd.R_lit_step (Kd.int .i64) _ 3 ?hg (N:=62) ?hd (xs:=([rd l0_0 a1_1]:List Int)) (inner:=[.int .i64 (rd l0_0 a1_1)]) (ok:=fun _=>True) (okp:=fun _=>True) ?hr ?hp (fun _ hk=>hk) trivial (Below.refl _ _) (Nat.le_refl _) (by simp) ?_;(case hd=>rfl);(case hg=>rfl);(case hr=>first | (go_simp;done) | (go_simp;rfl));(case hp=>exact(Reps.one (show Kd.M (Kd.int .i64) _ _ _ (rd l0_0 a1_1) [.int .i64 (rd l0_0 a1_1)] from rfl) (Reps.none _ _)))
  intro vz1 wz5 hoz1 hb hg_ hnew_
  have HSz1:=(hb.cell (World.block_lt_of_cell? _ _ (hHeld.2.2.2.2.2.1))).trans (hHeld.2.2.2.2.2.1)
  have HSz2:=(hb.cell (World.block_lt_of_cell? _ _ (hHeld.2.2.2.2.2.2))).trans (hHeld.2.2.2.2.2.2)
  clear hg_ hnew_
  (first | rw[← Ny108.out] at hoz1 | (simp only[Int.reduceToNat] at hoz1;rw[← Ny108.out] at hoz1))
  have HOz1:=aM (Kd.R_lower (Kd.R_newM (M:=fun k_=>(w.heap.size≤k_)) hoz1 (below_size (hX HB.out)) (fun k_ h_=>h_)) (below_size (hX HB.out)))
  replace HO0_0:=aM (Kd.V_elder' (vX HO0_0.out) (Kd.R_base hoz1) hb)
  replace BKz1:=aB BKz1 hb
  replace BKz2:=aB BKz2 hb
  replace HB:=aS HB hb
  clear hb hoz1
  refine hK.out _ _ ⟨cK BKz1.out 0,cK BKz1.out 1,cK BKz2.out 0,cK BKz2.out 1,cK BKz2.out 2,HSz1,HSz2⟩ (fun hHeld => ?_)
  clear hK K
  refine nZ 62 ?_
  refine pZ 14 4 (bm 16 32767) HT_.out ?_
  refine pZ 15 5 (bm 16 65535) HT_.out ?_
  refine done_ (done_of HT_.out (by kernel_rfl)) ?_
  try go_wp2
  go_ret2
  exact⟨_,rE,Kd.V_mono (Kd.R_V (rT (h:=by exact Kd.R_mono HOz1.out (fun _ hk=>hk.1)))) (fun k_ hk=>by first | exact⟨(.inr (hk.1)),hk.2⟩ | exact(.inr (hk))),(hX HB.out)⟩
 revert H;refine eP ?_ ?_<;>intro c77b0 c77b1 H
 ·obtain⟨y112,hy112⟩:∃ y_:List Int,y_=(([t103]:List Int)):=⟨_,rfl⟩
  replace H:(some (y112,decide (t103 ≥ 0)))=some (r1,r2):=yH H hy112
  have Ny112:=aM hy112
  clear hy112
  simp only[Option.some.injEq,Prod.mk.injEq] at H
  obtain⟨rfl,rfl⟩:=H
  go_wp2_with (first | (refine gB 197 10 Tryz.func197 (X2.calls _ _ _ _ _ _ _ _ (rw2 (cX (Kd.V_reads' HO0_0.out).2.2) ((Kd.V_reads' HO0_0.out).2.1)) A3.out) ?_;intro wz3 hb;replace HO0_0:=aM (Kd.V_below (vX HO0_0.out) hb);replace BKz1:=aB BKz1 hb;replace BKz2:=aB BKz2 hb;replace HB:=aS HB hb;clear hb;have hczz6:=cZ3 BKz2.out) | ((with_reducible refine gate_dst (N:=73) rfl ?_);refine Kd.R_lit (Kd.int .i64) _ 3 ?hg (N:=73) ?hd (xs:=([t103]:List Int)) (inner:=[.int .i64 t103]) (ok:=fun _=>True) (okp:=fun _=>True) ?hr ?hp (fun _ hk=>hk) trivial (Below.refl _ _) (Nat.le_refl _) (by simp) ?_;(case hd=>rfl);(case hg=>rfl);(case hr=>first | (go_simp;done) | (go_simp;rfl));(case hp=>exact(Reps.one (show Kd.M (Kd.int .i64) _ _ _ t103 [.int .i64 t103] from rfl) (Reps.none _ _)));intro vz1 wz4 hoz1 hb hg_ hnew_;clear hg_ hnew_;(first | rw[← Ny112.out] at hoz1 | (simp only[Int.reduceToNat] at hoz1;rw[← Ny112.out] at hoz1));have HOz1:=aM (Kd.R_lower (Kd.R_newM (M:=fun k_=>(w.heap.size≤k_)) hoz1 (below_size (hX HB.out)) (fun k_ h_=>h_)) (below_size (hX HB.out)));replace HO0_0:=aM (Kd.V_elder' (vX HO0_0.out) (Kd.R_base hoz1) hb);replace BKz1:=aB BKz1 hb;replace BKz2:=aB BKz2 hb;replace HB:=aS HB hb;clear hb hoz1))
  go_ret2
  exact⟨_,rE,Kd.V_mono (Kd.R_V (rT (h:=by exact Kd.R_mono HOz1.out (fun _ hk=>hk.1)))) (fun k_ hk=>by first | exact⟨(.inr (hk.1)),hk.2⟩ | exact(.inr (hk))),(hX HB.out)⟩
 revert H;refine eP ?_ ?_<;>intro c87b0 c87b1 H
 ·replace H:=bE H;obtain⟨t115,A88,H⟩:=H
  obtain⟨y116,hy116⟩:∃ y_:List Int,y_=(([t115]:List Int)):=⟨_,rfl⟩
  replace H:(some (y116,true))=some (r1,r2):=yH H hy116
  have Ny116:=aM hy116
  clear hy116
  simp only[Option.some.injEq,Prod.mk.injEq] at H
  obtain⟨rfl,rfl⟩:=H
  go_wp2_with (first | (refine gB 197 10 Tryz.func197 (X2.calls _ _ _ _ _ _ _ _ (rw2 (cX (Kd.V_reads' HO0_0.out).2.2) ((Kd.V_reads' HO0_0.out).2.1)) A3.out) ?_;intro wz3 hb;replace HO0_0:=aM (Kd.V_below (vX HO0_0.out) hb);replace BKz1:=aB BKz1 hb;replace BKz2:=aB BKz2 hb;replace HB:=aS HB hb;clear hb;have hczz6:=cZ3 BKz2.out;have hczz9:=cZ2 BKz1.out) | (refine gB 199 81 Tryz.func199 (Xac.calls _ _ _ _ _ _ _ _ (rw2 (cX (Kd.V_reads' HO0_0.out).2.2) ((Kd.V_reads' HO0_0.out).2.1)) A88.out) ?_;intro wz4 hb;replace HO0_0:=aM (Kd.V_below (vX HO0_0.out) hb);replace BKz1:=aB BKz1 hb;replace BKz2:=aB BKz2 hb;replace HB:=aS HB hb;clear hb) | ((with_reducible refine gate_dst (N:=82) rfl ?_);refine Kd.R_lit (Kd.int .i64) _ 3 ?hg (N:=82) ?hd (xs:=([t115]:List Int)) (inner:=[.int .i64 t115]) (ok:=fun _=>True) (okp:=fun _=>True) ?hr ?hp (fun _ hk=>hk) trivial (Below.refl _ _) (Nat.le_refl _) (by simp) ?_;(case hd=>rfl);(case hg=>rfl);(case hr=>first | (go_simp;done) | (go_simp;rfl));(case hp=>exact(Reps.one (show Kd.M (Kd.int .i64) _ _ _ t115 [.int .i64 t115] from rfl) (Reps.none _ _)));intro vz1 wz5 hoz1 hb hg_ hnew_;clear hg_ hnew_;(first | rw[← Ny116.out] at hoz1 | (simp only[Int.reduceToNat] at hoz1;rw[← Ny116.out] at hoz1));have HOz1:=aM (Kd.R_lower (Kd.R_newM (M:=fun k_=>(w.heap.size≤k_)) hoz1 (below_size (hX HB.out)) (fun k_ h_=>h_)) (below_size (hX HB.out)));replace HO0_0:=aM (Kd.V_elder' (vX HO0_0.out) (Kd.R_base hoz1) hb);replace BKz1:=aB BKz1 hb;replace BKz2:=aB BKz2 hb;replace HB:=aS HB hb;clear hb hoz1))
  go_ret2
  exact⟨_,rE,Kd.V_mono (Kd.R_V (rT (h:=by exact Kd.R_mono HOz1.out (fun _ hk=>hk.1)))) (fun k_ hk=>by first | exact⟨(.inr (hk.1)),hk.2⟩ | exact(.inr (hk))),(hX HB.out)⟩
 revert H;refine eP ?_ ?_<;>intro c100b0 c100b1 H
 ·simp only[Option.some.injEq,Prod.mk.injEq] at H
  obtain⟨rfl,rfl⟩:=H
  go_wp2_with (refine gB 197 10 Tryz.func197 (X2.calls _ _ _ _ _ _ _ _ (rw2 (cX (Kd.V_reads' HO0_0.out).2.2) ((Kd.V_reads' HO0_0.out).2.1)) A3.out) ?_;intro wz3 hb;replace HO0_0:=aM (Kd.V_below (vX HO0_0.out) hb);replace BKz1:=aB BKz1 hb;replace BKz2:=aB BKz2 hb;replace HB:=aS HB hb;clear hb;have hczz6:=cZ3 BKz2.out;have hczz9:=cZ2 BKz1.out)
  go_ret2
  exact⟨_,rE,(vT (h:=by exact Kd.V_mono HO0_0.out (fun _ hk=>hk.1.1))),(hX HB.out)⟩
 revert H;refine eP ?_ ?_<;>intro c109b0 c109b1 H
 ·simp only[Option.some.injEq,Prod.mk.injEq] at H
  obtain⟨rfl,rfl⟩:=H
  try go_wp2_with (refine gB 197 10 Tryz.func197 (X2.calls _ _ _ _ _ _ _ _ (rw2 (cX (Kd.V_reads' HO0_0.out).2.2) ((Kd.V_reads' HO0_0.out).2.1)) A3.out) ?_;intro wz3 hb;replace HO0_0:=aM (Kd.V_below (vX HO0_0.out) hb);replace BKz1:=aB BKz1 hb;replace BKz2:=aB BKz2 hb;replace HB:=aS HB hb;clear hb;have hczz6:=cZ3 BKz2.out)
  replace HO0_0:=aM (Kd.V_drew HO0_0.out)
  replace BKz1:=aM (blk_drew BKz1.out)
  replace BKz2:=aM (blk_drew BKz2.out)
  replace HB:=aM (below_drew1 HB.out)
  refine start_ (n:=5) (S:=fun w'=>w'.cell? ⟨gbz1,0,none⟩=some (.slice A0_0 l0_0.length c0_0)∧w'.cell? ⟨gbz1,1,none⟩=some (.int .i64 a0_1)) (ds:=[]) (bm 5 0) (by kernel_rfl) rfl (by kernel_rfl) ⟨cK BKz1.out 0,cK BKz1.out 1⟩ (fun hHeld => ?_)
  generalize wz3.drew=wz4 at HO0_0 BKz1 BKz2 HB hHeld ⊢
  refine pK 0 89 (bm 5 1) ?_
  refine pK 3 4 (bm 5 9) ?_
  refine tK 1 90 (bm 5 11) hHeld ?_
  refine pK 2 91 (bm 5 15) ?_
  refine pK 4 5 (bm 5 31) ?_
  refine done_ (by kernel_rfl) ?_
  try go_wp2
  go_ret2
  exact⟨(Value.slice none 0 0),rE,(by first | exact Kd.R_nil _ _ _ _ _ | exact Kd.S_nil _ _ _ _ _ | exact Kd.V_nil _ _ _ _ _ | exact Kd.N_nil _ _ _ _ _ | exact Kd.Q_nil _ _ _ _ _),(hX HB.out)⟩
 revert H;refine eP ?_ ?_<;>intro c118b0 c118b1 H
 ·go_wp2_with (refine gB 197 10 Tryz.func197 (X2.calls _ _ _ _ _ _ _ _ (rw2 (cX (Kd.V_reads' HO0_0.out).2.2) ((Kd.V_reads' HO0_0.out).2.1)) A3.out) ?_;intro wz3 hb;replace HO0_0:=aM (Kd.V_below (vX HO0_0.out) hb);replace BKz1:=aB BKz1 hb;replace BKz2:=aB BKz2 hb;replace HB:=aS HB hb;clear hb;have hczz6:=cZ3 BKz2.out;have hczz9:=cZ2 BKz1.out;refine Stop.out ?_)
  refine⟨?_⟩
  revert H;refine eP ?_ ?_<;>intro c119b0 c119b1 H
  ·simp only[Option.some.injEq,Prod.mk.injEq] at H
   obtain⟨rfl,rfl⟩:=H
   go_wp2
   go_ret2
   exact⟨(Value.slice none 0 0),rE,(by first | exact Kd.R_nil _ _ _ _ _ | exact Kd.S_nil _ _ _ _ _ | exact Kd.V_nil _ _ _ _ _ | exact Kd.N_nil _ _ _ _ _ | exact Kd.Q_nil _ _ _ _ _),(hX HB.out)⟩
  replace H:=bE H;obtain⟨t119,A128,H⟩:=H
  simp only[Option.some.injEq,Prod.mk.injEq] at H
  obtain⟨rfl,rfl⟩:=H
  go_wp2_with (go_at_call 198;(with_reducible refine(Xaj.calls _ _ _ _ _ _ (rw2 (cX (Kd.V_reads' HO0_0.out).2.2) ((Kd.V_reads' HO0_0.out).2.1)) A128.out).mono ?_);rintro e wz4 ⟨rfl,hb⟩;replace HO0_0:=aM (Kd.V_below (vX HO0_0.out) hb);replace BKz1:=aB BKz1 hb;replace BKz2:=aB BKz2 hb;replace HB:=aS HB hb;clear hb)
  go_ret2
  exact⟨(Value.slice none 0 0),rE,(by first | exact Kd.R_nil _ _ _ _ _ | exact Kd.S_nil _ _ _ _ _ | exact Kd.V_nil _ _ _ _ _ | exact Kd.N_nil _ _ _ _ _ | exact Kd.Q_nil _ _ _ _ _),(hX HB.out)⟩
 obtain⟨y120,hy120⟩:∃ y_:List Int,y_=(([t103]:List Int)):=⟨_,rfl⟩
 replace H:(if t103 ≥ 0 then ((Xaj.f l0_0 a0_1).bind fun t123=>(some (y120,t123))) else (some (y120,false)))=some (r1,r2):=yH H hy120
 have Ny120:=aM hy120
 clear hy120
 go_wp2_with (refine gB 197 10 Tryz.func197 (X2.calls _ _ _ _ _ _ _ _ (rw2 (cX (Kd.V_reads' HO0_0.out).2.2) ((Kd.V_reads' HO0_0.out).2.1)) A3.out) ?_;intro wz3 hb;replace HO0_0:=aM (Kd.V_below (vX HO0_0.out) hb);replace BKz1:=aB BKz1 hb;replace BKz2:=aB BKz2 hb;replace HB:=aS HB hb;clear hb;have hczz6:=cZ3 BKz2.out;refine Stop.out ?_)
 refine⟨?_⟩
 revert H;refine iN ?_ ?_<;>intro c138b0 H
 ·simp only[Option.some.injEq,Prod.mk.injEq] at H
  obtain⟨rfl,rfl⟩:=H
  go_wp2_with ((with_reducible refine gate_dst (N:=103) rfl ?_);refine Kd.R_lit (Kd.int .i64) _ 3 ?hg (N:=103) ?hd (xs:=([t103]:List Int)) (inner:=[.int .i64 t103]) (ok:=fun _=>True) (okp:=fun _=>True) ?hr ?hp (fun _ hk=>hk) trivial (Below.refl _ _) (Nat.le_refl _) (by simp) ?_;(case hd=>rfl);(case hg=>rfl);(case hr=>first | (go_simp;done) | (go_simp;rfl));(case hp=>exact(Reps.one (show Kd.M (Kd.int .i64) _ _ _ t103 [.int .i64 t103] from rfl) (Reps.none _ _)));intro vz1 wz4 hoz1 hb hg_ hnew_;clear hg_ hnew_;(first | rw[← Ny120.out] at hoz1 | (simp only[Int.reduceToNat] at hoz1;rw[← Ny120.out] at hoz1));have HOz1:=aM (Kd.R_lower (Kd.R_newM (M:=fun k_=>(w.heap.size≤k_)) hoz1 (below_size (hX HB.out)) (fun k_ h_=>h_)) (below_size (hX HB.out)));replace HO0_0:=aM (Kd.V_elder' (vX HO0_0.out) (Kd.R_base hoz1) hb);replace BKz1:=aB BKz1 hb;replace BKz2:=aB BKz2 hb;replace HB:=aS HB hb;clear hb hoz1)
  go_ret2
  exact⟨_,rE,Kd.V_mono (Kd.R_V (rT (h:=by exact Kd.R_mono HOz1.out (fun _ hk=>hk.1)))) (fun k_ hk=>by first | exact⟨(.inr (hk.1)),hk.2⟩ | exact(.inr (hk))),(hX HB.out)⟩
 replace H:=bE H;obtain⟨t123,A139,H⟩:=H
 simp only[Option.some.injEq,Prod.mk.injEq] at H
 obtain⟨rfl,rfl⟩:=H
 go_wp2_with (first | ((with_reducible refine gate_dst (N:=103) rfl ?_);refine Kd.R_lit (Kd.int .i64) _ 3 ?hg (N:=103) ?hd (xs:=([t103]:List Int)) (inner:=[.int .i64 t103]) (ok:=fun _=>True) (okp:=fun _=>True) ?hr ?hp (fun _ hk=>hk) trivial (Below.refl _ _) (Nat.le_refl _) (by simp) ?_;(case hd=>rfl);(case hg=>rfl);(case hr=>first | (go_simp;done) | (go_simp;rfl));(case hp=>exact(Reps.one (show Kd.M (Kd.int .i64) _ _ _ t103 [.int .i64 t103] from rfl) (Reps.none _ _)));intro vz1 wz4 hoz1 hb hg_ hnew_;clear hg_ hnew_;(first | rw[← Ny120.out] at hoz1 | (simp only[Int.reduceToNat] at hoz1;rw[← Ny120.out] at hoz1));have HOz1:=aM (Kd.R_lower (Kd.R_newM (M:=fun k_=>(w.heap.size≤k_)) hoz1 (below_size (hX HB.out)) (fun k_ h_=>h_)) (below_size (hX HB.out)));replace HO0_0:=aM (Kd.V_elder' (vX HO0_0.out) (Kd.R_base hoz1) hb);replace BKz1:=aB BKz1 hb;replace BKz2:=aB BKz2 hb;replace HB:=aS HB hb;clear hb hoz1;have hczz9:=cZ2 BKz1.out) | (go_at_call 198;(with_reducible refine(Xaj.calls _ _ _ _ _ _ (rw2 (cX (Kd.V_reads' HO0_0.out).2.2) ((Kd.V_reads' HO0_0.out).2.1)) A139.out).mono ?_);rintro e wz5 ⟨rfl,hb⟩;replace HO0_0:=aM (Kd.V_below (vX HO0_0.out) hb);replace HOz1:=aQ HOz1 hb;replace BKz1:=aB BKz1 hb;replace BKz2:=aB BKz2 hb;replace HB:=aS HB hb;clear hb))
 go_ret2
 exact⟨_,rE,Kd.V_mono (Kd.R_V (rT (h:=by exact Kd.R_mono HOz1.out (fun _ hk=>hk.1)))) (fun k_ hk=>by first | exact⟨(.inr (hk.1)),hk.2⟩ | exact(.inr (hk))),(hX HB.out)⟩
end Go.Proofs.YthejoblnfpaojaaGreat.P
