/- A part of the proof of the law FnStarts: texts of this seat, merged (words, printed functions of the program, plain lemmas). Conditions: none of its own. -/
import Derived.Test.YthejoblnfpaojaaGreatPkFnStarts22
set_option linter.unusedSimpArgs false
set_option linter.unusedVariables false
set_option maxHeartbeats 8000000
set_option maxRecDepth 100000
namespace Go.Proofs.YthejoblnfpaojaaGreat.P
open Go.Proofs.YthejoblnfpaojaaGreatZ Go.RowKit Go.Proofs.YthejoblnfpaojaaGreatW.PrintWords Go.Proofs.YthejoblnfpaojaaGreatW.PrintLast Go.Proofs.YthejoblnfpaojaaGreatW.PrintMore
attribute [local go_sem] max2_int min2_int max_two min_two max_three min_three max_four min_four   -- for this text's walks alone
def XJ.l0:Nat→List (S58)→Int→Int→Option (Int)
 | 0,_,_,_=>none
 | k+1,x0,x7,x8=>if x8<x7 then (if 0≤x8 then (if x8<(x0.length:Int) then ((Xaz.f k ((rd_T58 x0 x8).f0) ((rd_T58 x0 x8).f1) ((rd_T58 x0 x8).f2) ((rd_T58 x0 x8).f3.f0) ((rd_T58 x0 x8).f3.f1)).bind fun t102=>(if t102=true then (some x8) else (XJ.l0 k x0 x7 (wrap64 (x8+1))))) else (none)) else (none)) else (some (-1))
def XJ.f (k:Nat) (l0:List (S58))  : Option (Int):=XJ.l0 k l0 (l0.length:Int) 0
theorem XJ.calls (k:Nat) (A0:Option Addr) (c0:Nat) (l0:List (S58)) (r:Int) (w:World) (h0:Rw k58 w A0 c0 l0) (H:XJ.f k l0=some r) :
  Calls Tryz.prog 168 #[.slice A0 l0.length c0,.func (.func 101) #[] #[]] w fun e w'=>e = .returned (.int .i64 r)∧Below w.heap.size w w':=by
 have hu58:=Tryz.underlying58
 obtain⟨HR0,HC0⟩:=h0
 have HB:=aM (Below.refl w.heap.size w)
 unfold XJ.f at H
 have H':=aM H
 clear H
 go_enter Tryz.func168,Tryz.ntmps168
 go_wp2
 go_loopg [8] k (fun kq v8 w'=>∃ (x8_1:Int),v8 = .int .i64 x8_1∧Aside0 (XJ.l0 kq l0 (l0.length:Int) x8_1=some r)∧Aside0 (kq≤k)∧Aside0 (Below w.heap.size w w'))
 case atStart=>exact⟨(0),rS,H',⟨Nat.le_refl _⟩,⟨(hX HB.out)⟩⟩
 case round =>
  clear H'
  obtain⟨x8_1,rfl,HA,HKy1,HB⟩:=hrel
  cases gk with
  | zero=>exact absurd HA.out (by simp[XJ.l0])
  | succ k1 =>
   have H:=HA.out
   clear HA
   simp only[XJ.l0] at H
   revert H;refine iN ?_ ?_<;>intro c3b0 H
   ·obtain rfl:=sI H
    exact fS
   replace H:=ifQ H;obtain⟨c4b0,H⟩:=H
   replace H:=ifQ H;obtain⟨c5b0,H⟩:=H
   replace H:=bE H;obtain⟨t102,A6,H⟩:=H
   cases t102
   case true =>
    rw[if_pos rfl] at H
    obtain rfl:=sI H
    obtain⟨adx1,Ax1,cx1,Ax2,cx2,ex1,px1,qx1,hxx1,HCx1,HRx1,HCx2,HRx2⟩:=at_T58c HR0 HB x8_1
    cases ex1
    go_wp2_with ((with_reducible refine Go.Proofs.YthejoblnfpaojaaGreatZ.gate_calleeT (t:=11) rfl ?_);refine Go.Proofs.YthejoblnfpaojaaGreatZ.goesT_ (some 16) 11 rfl rfl Tryz.func101 (by kernel_rfl) rfl #[.agg #[.int .i64 ((rd_T58 l0 x8_1).f0),.int .i64 ((rd_T58 l0 x8_1).f1),.slice Ax1 ((rd_T58 l0 x8_1).f2).length cx1,.int .i64 ((rd_T58 l0 x8_1).f3.f0),.slice Ax2 ((rd_T58 l0 x8_1).f3.f1).length cx2]] rfl rfl (by (try simp only[List.map_toArray,List.map_cons,List.map_nil]);first | done | rfl | (simp only[List.length_drop,List.length_take];rfl)) ?_;refine(Xaz.calls k1 ((rd_T58 l0 x8_1).f0) ((rd_T58 l0 x8_1).f1) _ _ ((rd_T58 l0 x8_1).f2) ((rd_T58 l0 x8_1).f3.f0) _ _ ((rd_T58 l0 x8_1).f3.f1) true _ (rW HRx1 HB HCx1) (rW HRx2 HB HCx2) A6.out).mono ?_;rintro e wx1 ⟨rfl,hb⟩;refine⟨_,rfl,?_⟩;replace HB:=aS HB hb;clear hb)
    go_ret
    exact⟨rE,(hX HB.out)⟩
   rw[if_neg nft] at H
   have H':=aM H
   clear H
   obtain⟨adx1,Ax1,cx1,Ax2,cx2,ex1,px1,qx1,hxx1,HCx1,HRx1,HCx2,HRx2⟩:=at_T58c HR0 HB x8_1
   cases ex1
   go_wp2_with ((with_reducible refine Go.Proofs.YthejoblnfpaojaaGreatZ.gate_calleeT (t:=11) rfl ?_);refine Go.Proofs.YthejoblnfpaojaaGreatZ.goesT_ (some 16) 11 rfl rfl Tryz.func101 (by kernel_rfl) rfl #[.agg #[.int .i64 ((rd_T58 l0 x8_1).f0),.int .i64 ((rd_T58 l0 x8_1).f1),.slice Ax1 ((rd_T58 l0 x8_1).f2).length cx1,.int .i64 ((rd_T58 l0 x8_1).f3.f0),.slice Ax2 ((rd_T58 l0 x8_1).f3.f1).length cx2]] rfl rfl (by (try simp only[List.map_toArray,List.map_cons,List.map_nil]);first | done | rfl | (simp only[List.length_drop,List.length_take];rfl)) ?_;refine(Xaz.calls k1 ((rd_T58 l0 x8_1).f0) ((rd_T58 l0 x8_1).f1) _ _ ((rd_T58 l0 x8_1).f2) ((rd_T58 l0 x8_1).f3.f0) _ _ ((rd_T58 l0 x8_1).f3.f1) false _ (rW HRx1 HB HCx1) (rW HRx2 HB HCx2) A6.out).mono ?_;rintro e wx1 ⟨rfl,hb⟩;refine⟨_,rfl,?_⟩;replace HB:=aS HB hb;clear hb)
   go_roundg k1
   case measure=>have:=HKy1.out;omega
   case rel=>exact⟨(wrap64 (x8_1+1)),rS,H',⟨by have:=HKy1.out;omega⟩,⟨(hX HB.out)⟩⟩
def XR.l0:Nat→List (S78)→Int→Int→Option (Int)
 | 0,_,_,_=>none
 | k+1,x0,x7,x8=>if x8<x7 then (if 0≤x8 then (if x8<(x0.length:Int) then ((Xam.f k ((rd_T78 x0 x8).f0) ((rd_T78 x0 x8).f1) ((rd_T78 x0 x8).f2)).bind fun t102=>(if t102=true then (some x8) else (XR.l0 k x0 x7 (wrap64 (x8+1))))) else (none)) else (none)) else (some (-1))
def XR.f (k:Nat) (l0:List (S78))  : Option (Int):=XR.l0 k l0 (l0.length:Int) 0
theorem XR.calls (k:Nat) (A0:Option Addr) (c0:Nat) (l0:List (S78)) (r:Int) (w:World) (h0:Rw k78 w A0 c0 l0) (H:XR.f k l0=some r) :
  Calls Tryz.prog 200 #[.slice A0 l0.length c0,.func (.func 155) #[] #[]] w fun e w'=>e = .returned (.int .i64 r)∧Below w.heap.size w w':=by
 have hu78:=Tryz.underlying78
 obtain⟨HR0,HC0⟩:=h0
 have HB:=aM (Below.refl w.heap.size w)
 unfold XR.f at H
 have H':=aM H
 clear H
 go_enter Tryz.func200,Tryz.ntmps200
 go_wp2
 go_loopg [8] k (fun kq v8 w'=>∃ (x8_1:Int),v8 = .int .i64 x8_1∧Aside0 (XR.l0 kq l0 (l0.length:Int) x8_1=some r)∧Aside0 (kq≤k)∧Aside0 (Below w.heap.size w w'))
 case atStart=>exact⟨(0),rS,H',⟨Nat.le_refl _⟩,⟨(hX HB.out)⟩⟩
 case round =>
  clear H'
  obtain⟨x8_1,rfl,HA,HKy1,HB⟩:=hrel
  cases gk with
  | zero=>exact absurd HA.out (by simp[XR.l0])
  | succ k1 =>
   have H:=HA.out
   clear HA
   simp only[XR.l0] at H
   revert H;refine iN ?_ ?_<;>intro c3b0 H
   ·obtain rfl:=sI H
    exact fS
   replace H:=ifQ H;obtain⟨c4b0,H⟩:=H
   replace H:=ifQ H;obtain⟨c5b0,H⟩:=H
   replace H:=bE H;obtain⟨t102,A6,H⟩:=H
   cases t102
   case true =>
    rw[if_pos rfl] at H
    obtain rfl:=sI H
    obtain⟨adx1,ex1,px1,qx1,hxx1⟩:=at_T78c HR0 HB x8_1
    cases ex1
    go_wp2_with ((with_reducible refine Go.Proofs.YthejoblnfpaojaaGreatZ.gate_calleeT (t:=11) rfl ?_);refine Go.Proofs.YthejoblnfpaojaaGreatZ.goesT_ (some 16) 11 rfl rfl Tryz.func155 (by kernel_rfl) rfl #[.agg #[.int .i64 ((rd_T78 l0 x8_1).f0),.int .i64 ((rd_T78 l0 x8_1).f1),.int .i64 ((rd_T78 l0 x8_1).f2)]] rfl rfl (by (try simp only[List.map_toArray,List.map_cons,List.map_nil]);first | done | rfl | (simp only[List.length_drop,List.length_take];rfl)) ?_;(with_reducible refine(Xam.calls _ _ _ _ _ _ A6.out).mono ?_);rintro e wx1 ⟨rfl,hb⟩;refine⟨_,rfl,?_⟩;replace HB:=aS HB hb;clear hb)
    go_ret
    exact⟨rE,(hX HB.out)⟩
   rw[if_neg nft] at H
   have H':=aM H
   clear H
   obtain⟨adx1,ex1,px1,qx1,hxx1⟩:=at_T78c HR0 HB x8_1
   cases ex1
   go_wp2_with ((with_reducible refine Go.Proofs.YthejoblnfpaojaaGreatZ.gate_calleeT (t:=11) rfl ?_);refine Go.Proofs.YthejoblnfpaojaaGreatZ.goesT_ (some 16) 11 rfl rfl Tryz.func155 (by kernel_rfl) rfl #[.agg #[.int .i64 ((rd_T78 l0 x8_1).f0),.int .i64 ((rd_T78 l0 x8_1).f1),.int .i64 ((rd_T78 l0 x8_1).f2)]] rfl rfl (by (try simp only[List.map_toArray,List.map_cons,List.map_nil]);first | done | rfl | (simp only[List.length_drop,List.length_take];rfl)) ?_;(with_reducible refine(Xam.calls _ _ _ _ _ _ A6.out).mono ?_);rintro e wx1 ⟨rfl,hb⟩;refine⟨_,rfl,?_⟩;replace HB:=aS HB hb;clear hb)
   go_roundg k1
   case measure=>have:=HKy1.out;omega
   case rel=>exact⟨(wrap64 (x8_1+1)),rS,H',⟨by have:=HKy1.out;omega⟩,⟨(hX HB.out)⟩⟩
def Xae.f (k:Nat) (l0:List (S152))  : Option (Bool):=(XI.f k l0).bind fun t101=>(some (decide (t101 ≥ 0)))
theorem Xae.calls (k:Nat) (A0:Option Addr) (c0:Nat) (l0:List (S152)) (r:Bool) (w:World) (h0:Rw k152 w A0 c0 l0) (H:Xae.f k l0=some r) :
  Calls Tryz.prog 156 #[.slice A0 l0.length c0,.func (.func 157) #[] #[]] w fun e w'=>e = .returned (.bool r)∧Below w.heap.size w w':=by
 obtain⟨HR0,HC0⟩:=h0
 have HB:=aM (Below.refl w.heap.size w)
 unfold Xae.f at H
 replace H:=bE H;obtain⟨t101,A3,H⟩:=H
 obtain rfl:=sI H
 go_enter Tryz.func156,Tryz.ntmps156
 go_wp2_with (refine gB 201 7 Tryz.func201 (XI.calls _ _ _ _ _ _ (rw2 (cX HR0.out) HC0.out) A3.out) ?_;intro wz1 hb;replace HB:=aS HB hb;clear hb)
 go_ret
 exact⟨rE,(hX HB.out)⟩
mutual
def Xl.l0:Nat→List Int→Int→List Int→Int→Option (List Int)
 | 0,_,_,_,_=>none
 | k+1,x3,x4,x102000,x102001=>if x4<4 then (if 0≤x4 then (if x4<(x102000.length:Int) then ((XaO.f x4).bind fun t110=>(if 0≤t110 then (if t110<(x3.length:Int) then ((some (x3.set (t110:Int).toNat (rd x102000 x4):List Int)).bind fun y111=>(if (rd x102000 x4)=0 then (Xl.l0 k y111 (wrap64 (x4+1)) x102000 x102001) else ((XaI.f (rd x102000 x4)).bind fun t112=>(if 0≤t112 then (if t112<(x3.length:Int) then ((some (y111.set (t112:Int).toNat (wrap64 (x4+1)):List Int)).bind fun y113=>(if x4<(wrap64 (x102001 - 1)) then ((XaP.f (rd x102000 x4)).bind fun t114=>(if 0≤t114 then (if t114<(x3.length:Int) then (Xl.l0 k (y113.set (t114:Int).toNat (wrap64 (x4+1))) (wrap64 (x4+1)) x102000 x102001) else (none)) else (none))) else (Xl.l0 k y113 (wrap64 (x4+1)) x102000 x102001))) else (none)) else (none))))) else (none)) else (none))) else (none)) else (none)) else (Xl.l1 k x3 0 x102000 x102001)
def Xl.l1:Nat→List Int→Int→List Int→Int→Option (List Int)
 | 0,_,_,_,_=>none
 | k+1,x3,x6,x102000,x102001=>if x6<3 then ((XaD.f x6).bind fun t116=>((XZ.f k x102000 x102001 x6).bind fun t117=>(if 0≤t116 then (if t116<(x3.length:Int) then (Xl.l1 k (x3.set (t116:Int).toNat t117) (wrap64 (x6+1)) x102000 x102001) else (none)) else (none)))) else ((Xar.f).bind fun t119=>(if 0≤t119 then (if t119<(x3.length:Int) then (some (x3.set (t119:Int).toNat x102001)) else (none)) else (none)))
end
def Xl.f (k:Nat) (l0_0:List Int) (a0_1:Int):Option (List Int):=(Xu.f k l0_0 a0_1).bind fun t102=>(if t102=true then (if 20≤35184372088832 then (Xl.l0 k (List.replicate 20 0) 0 l0_0 a0_1) else (none)) else (some (([]:List Int))))
def Xl.T16:Bool × List (List Nat × List Nat):=(true,[([],[]),([],[]),([1],[1]),([],[]),([],[]),([3,4,2],[3,4]),([0,2,0,1,2,3,4,5],[0,2]),([6,5,5,0,1,2,3,4,5],[5,6])])
def Xl.B16:List Nat:=[0,0,2,0,0,30,63,127]
theorem Xl.tab16:rtab .any (opsOf Tryz.f94 16)=Xl.T16:=by kernel_rfl
theorem Xl.bits16:waitsOk Xl.T16.2 Xl.B16=true:=by kernel_rfl
theorem Xl.calls (k:Nat) (A0_0:Option Addr) (c0_0:Nat) (l0_0:List Int) (a0_1:Int) (r:List Int) (w:World) (h0_0:Rw (Kd.int .i64) w A0_0 c0_0 l0_0) (H:Xl.f k l0_0 a0_1=some r) :
  Calls Tryz.prog 94 #[.agg #[.slice A0_0 l0_0.length c0_0,.int .i64 a0_1]] w fun e w'=>∃ v0_:Value,e = .returned (v0_)∧Kd.R (Kd.int .i64) 3 w' w.heap.size (fun _=>True) v0_ r∧Below w.heap.size w w':=by
 have hu26:=Tryz.underlying26
 obtain⟨HR0_0,HC0_0⟩:=h0_0
 have HB:=aM (Below.refl w.heap.size w)
 unfold Xl.f at H
 replace H:=bE H;obtain⟨t102,A2,H⟩:=H
 go_enter Tryz.func94,Tryz.ntmps94
 go_wp2_with (refine boxE 1 #[.slice A0_0 l0_0.length c0_0,.int .i64 a0_1] 26 ?_;intro gbz1 hg wz1 hbox hb;have BKz1:=aM (hbox);have GWz1:=aG hg HB;replace HB:=aS HB hb;clear hb hbox hg;have hczz1:=cZ2 BKz1.out;refine Stop.out ?_)
 refine⟨?_⟩
 cases t102
 case false =>
  rw[if_neg nft] at H
  obtain⟨y103,hy103⟩:∃ y_:List Int,y_=(([]:List Int)):=⟨_,rfl⟩
  replace H:(some y103)=some r:=yH H hy103
  have Ny103:=aM hy103
  clear hy103
  obtain rfl:=sI H
  go_wp2_with (first | (refine gB 125 8 Tryz.func125 (Xu.calls _ _ _ _ _ _ _ (rW HR0_0 HB HC0_0) A2.out) ?_;intro wz2 hb;replace BKz1:=aB BKz1 hb;replace HB:=aS HB hb;clear hb) | ((with_reducible refine gate_dst (N:=10) rfl ?_);refine Kd.R_lit (Kd.int .i64) _ 3 ?hg (N:=10) ?hd (xs:=([]:List Int)) (inner:=[]) (ok:=fun _=>True) (okp:=fun _=>True) ?hr ?hp (fun _ hk=>hk) trivial (Below.refl _ _) (Nat.le_refl _) (by simp) ?_;(case hd=>rfl);(case hg=>rfl);(case hr=>first | (go_simp;done) | (go_simp;rfl));(case hp=>exact(Reps.none _ _));intro vz1 wz3 hoz1 hb hg_ hnew_;clear hg_ hnew_;(first | rw[← Ny103.out] at hoz1 | (simp only[Int.reduceToNat] at hoz1;rw[← Ny103.out] at hoz1));have HOz1:=aM (Kd.R_lower hoz1 (below_size (hX HB.out)));replace BKz1:=aB BKz1 hb;replace HB:=aS HB hb;clear hb hoz1))
  go_ret
  exact⟨_,rE,(rX HOz1.out),(hX HB.out)⟩
 rw[if_pos rfl] at H
 replace H:=ifP H;obtain⟨c4,H⟩:=H
 have c4b0:=eq_true c4
 have c4b1:=decide_eq_true c4
 clear c4
 obtain⟨y106,hy106⟩:∃ y_:List Int,y_=(List.replicate 20 0):=⟨_,rfl⟩
 replace H:(Xl.l0 k y106 0 l0_0 a0_1)=some r:=yH H hy106
 have Ny106:=aM hy106
 clear hy106
 have H':=aM H
 clear H
 go_wp2_with (first | (refine gB 125 8 Tryz.func125 (Xu.calls _ _ _ _ _ _ _ (rW HR0_0 HB HC0_0) A2.out) ?_;intro wz2 hb;replace BKz1:=aB BKz1 hb;replace HB:=aS HB hb;clear hb) | ((with_reducible refine gate_dst (N:=11) rfl ?_);refine Kd.R_make (Kd.int .i64) _ 3 rfl (N:=11) rfl 24 _ _ rfl 20 rfl rfl Tryz.underlying24 (.int .i64 0) 8 info3 rfl (by decide) (by omega) 0 (ok:=fun _=>True) (okp:=fun _=>True) rfl (fun _ hk=>hk) trivial (by omega) (by omega) (Below.refl _ _) (Nat.le_refl _) ?_;intro vz1 wz3 hoz1 hb hg_ hnew_;clear hg_ hnew_;(first | rw[← Ny106.out] at hoz1 | (simp only[Int.reduceToNat] at hoz1;rw[← Ny106.out] at hoz1));have HOz1:=aM (Kd.R_lower hoz1 (below_size (hX HB.out)));replace BKz1:=aB BKz1 hb;replace HB:=aS HB hb;clear hb hoz1))
 go_loopg [4] k (fun kq v4 w'=>∃ (x3_1:List Int) (x4_1:Int),v4 = .int .i64 x4_1∧Aside0 (Xl.l0 kq x3_1 x4_1 l0_0 a0_1=some r)∧Aside0 (kq≤k)∧Aside0 (Kd.R (Kd.int .i64) 3 w' w.heap.size (fun _=>True) vz1 x3_1)∧Aside0 (w'.heap[gbz1]? = some (.cells #[(.slice A0_0 l0_0.length c0_0),.int .i64 a0_1] 26 (0,0)))∧Aside0 (Below w.heap.size w w'))
 case atStart=>exact⟨(y106),(0),rS,H',⟨Nat.le_refl _⟩,⟨(rX HOz1.out)⟩,⟨(bX BKz1.out)⟩,⟨(hX HB.out)⟩⟩
 case round =>
  clear H'
  try clear c4
  try clear c4b0
  try clear c4b1
  try clear hczz1
  obtain⟨x3_1,x4_1,rfl,HA,HKy1,HO_y1,BKz1,HB⟩:=hrel
  cases gk with
  | zero=>exact absurd HA.out (by simp[Xl.l0])
  | succ k1 =>
   have H:=HA.out
   clear HA
   simp only[Xl.l0] at H
   revert H;refine iP ?_ ?_<;>intro c10b0 H
   ·replace H:=ifP H;obtain⟨c11,H⟩:=H
    have c11b0:=decide_eq_true c11
    clear c11
    replace H:=ifQ H;obtain⟨c12b0,H⟩:=H
    replace H:=bE H;obtain⟨t110,A13,H⟩:=H
    replace H:=ifQ H;obtain⟨c14b0,H⟩:=H
    replace H:=ifQ H;obtain⟨c15b0,H⟩:=H
    replace H:=sE H;obtain⟨y111,Ny111,H⟩:=H
    have hczx1:=cZ2 BKz1.out
    obtain⟨adx1,ex1,px1,qx1,hxx1⟩:=at_ic HR0_0 HB x4_1
    cases ex1
    go_wp2_with (first | (refine gD 160 23 Tryz.func160 (XaO.calls _ _ _ A13.out) ?_;intro nd;(try (rw[drewN_self wr];generalize hq_:World.drewN wr _=wr;have nx1:Aside0 (Kd.R (Kd.int .i64) 3 wr w.heap.size (fun _=>True) vz1 x3_1):=⟨by rw[← hq_];exact(rX HO_y1.out)⟩;have nx2:Aside0 (wr.heap[gbz1]? = some (.cells #[.slice (some adx1) l0_0.length c0_0,.int .i64 a0_1] 26 (0,0))):=⟨by rw[← hq_];exact(bX BKz1.out)⟩;have nx3:Aside0 (Below w.heap.size w wr):=⟨by rw[← hq_];exact(hX HB.out)⟩;clear HO_y1 BKz1 HB hq_;have HO_y1:=nx1;have BKz1:=nx2;have HB:=nx3;clear nx1 nx2 nx3));have px2:0≤(t110:Int):=odA;have qx2:(t110:Int)<((x3_1.length:Int):Int):=odA;obtain⟨gox1,cox1,eox1,gbx1,glx1,clx1,HGx1⟩:=Kd.R_form HO_y1.out (by omega);(first | cases eox1 | (injection eox1 with ea_ en_ ec_;(first | subst ea_ | (injection ea_ with ea_;subst ea_));subst ec_;clear en_));have GBx1:=aM gbx1;have GGx1:=aM HGx1;clear gbx1 glx1 HGx1;obtain⟨hxx2,hfx1⟩:=Kd.R_celln 0 HO_y1.out (t110:Int) px2 qx2;replace px2:=eq_true px2;replace qx2:=eq_true qx2;obtain⟨hyx1,hzx1⟩:=Kd.R_celln 0 HO_y1.out (t110:Int) (odA) (odA);have HPx1:=Kd.R_putg HO_y1.out (t110:Int) (rd l0_0 x4_1)) | ((with_reducible refine gate_store (t:=3) (p:=25) rfl ?_);refine store_event (t:=3) (p:=25) (v:=?vo_wx1) (w1:=(wr.setCell ⟨gox1,(t110:Int).toNat,none⟩ (.int .i64 (rd l0_0 x4_1)))) ?hg ?ho ?hn ?hr ?_;(case ho=>rfl);(case hg=>rfl);(case hn=>rfl);(case hr=>first | (go_simp;done) | (go_simp;rfl));intro wx1 hw;have hg:wr.grownBy wx1 (some gox1):=(by rw[hw];exact HPx1.2);have hp_:Kd.R (Kd.int .i64) 3 wx1 w.heap.size (fun _=>True) (.slice (some ⟨gox1,0,none⟩) x3_1.length cox1) y111:=(by rw[hw,Ny111.out];exact HPx1.1);clear HPx1;replace BKz1:=aM (blk_grown (g:=gbz1) (o:=.cells #[.slice (some adx1) l0_0.length c0_0,.int .i64 a0_1] 26 (0,0)) (bX BKz1.out) hg (Kd.R_ne HO_y1.out BKz1.out (by decide)));replace HO_y1:=aM (hp_);replace HB:=aM ((by rw[hw];exact below_set (HB.out) GBx1.out:Below w.heap.size w wx1));clear hg hw hp_;refine Stop.out ?_))
    refine⟨?_⟩
    revert H;refine eP ?_ ?_<;>intro c17b0 c17b1 H
    ·have H':=aM H
     clear H
     go_wp2
     go_roundg k1
     case measure=>have:=HKy1.out;omega
     case rel=>exact⟨(y111),(wrap64 (x4_1+1)),rS,H',⟨by have:=HKy1.out;omega⟩,⟨(rX HO_y1.out)⟩,⟨(bX BKz1.out)⟩,⟨(hX HB.out)⟩⟩
    replace H:=bE H;obtain⟨t112,A21,H⟩:=H
    replace H:=ifQ H;obtain⟨c22b0,H⟩:=H
    replace H:=ifQ H;obtain⟨c23b0,H⟩:=H
    replace H:=sE H;obtain⟨y113,Ny113,H⟩:=H
    go_wp2_with (first | (refine gD 161 30 Tryz.func161 (XaI.calls _ _ _ A21.out) ?_;intro nd;(try (rw[drewN_self wx1];generalize hq_:World.drewN wx1 _=wx1;have nx1:Aside0 (Kd.R (Kd.int .i64) 3 wx1 w.heap.size (fun _=>True) (.slice (some ⟨gox1,0,none⟩) x3_1.length cox1) y111):=⟨by rw[← hq_];exact(rX HO_y1.out)⟩;have nx2:Aside0 (wx1.heap[gbz1]? = some (.cells #[.slice (some adx1) l0_0.length c0_0,.int .i64 a0_1] 26 (0,0))):=⟨by rw[← hq_];exact(bX BKz1.out)⟩;have nx3:Aside0 (Below w.heap.size w wx1):=⟨by rw[← hq_];exact(hX HB.out)⟩;clear HO_y1 BKz1 HB hq_;have HO_y1:=nx1;have BKz1:=nx2;have HB:=nx3;clear nx1 nx2 nx3));have px3:0≤(t112:Int):=odA;have qx3:(t112:Int)<((x3_1.length:Int):Int):=odA;obtain⟨hxx3,hfx2⟩:=Kd.R_celln 0 HO_y1.out (t112:Int) px3 qx3;replace px3:=eq_true px3;replace qx3:=eq_true qx3;obtain⟨hyx2,hzx2⟩:=Kd.R_celln 0 HO_y1.out (t112:Int) (odA) (odA);have HPx2:=Kd.R_putg HO_y1.out (t112:Int) (wrap64 (x4_1+1))) | ((with_reducible refine gate_store (t:=3) (p:=33) rfl ?_);refine store_event (t:=3) (p:=33) (v:=?vo_wx2) (w1:=(wx1.setCell ⟨gox1,(t112:Int).toNat,none⟩ (.int .i64 (wrap64 (x4_1+1))))) ?hg ?ho ?hn ?hr ?_;(case ho=>rfl);(case hg=>rfl);(case hn=>rfl);(case hr=>first | (go_simp;done) | (go_simp;rfl));intro wx2 hw;have hg:wx1.grownBy wx2 (some gox1):=(by rw[hw];exact HPx2.2);have hp_:Kd.R (Kd.int .i64) 3 wx2 w.heap.size (fun _=>True) (.slice (some ⟨gox1,0,none⟩) x3_1.length cox1) y113:=(by rw[hw,Ny113.out];exact HPx2.1);clear HPx2;replace BKz1:=aM (blk_grown (g:=gbz1) (o:=.cells #[.slice (some adx1) l0_0.length c0_0,.int .i64 a0_1] 26 (0,0)) (bX BKz1.out) hg (Kd.R_ne HO_y1.out BKz1.out (by decide)));replace HO_y1:=aM (hp_);replace HB:=aM ((by rw[hw];exact below_set (HB.out) GBx1.out:Below w.heap.size w wx2));clear hg hw hp_;have hczx3:=cZ2 BKz1.out;refine Stop.out ?_))
    refine⟨?_⟩
    revert H;refine iN ?_ ?_<;>intro c25b0 H
    ·have H':=aM H
     clear H
     go_wp2
     go_roundg k1
     case measure=>have:=HKy1.out;omega
     case rel=>exact⟨(y113),(wrap64 (x4_1+1)),rS,H',⟨by have:=HKy1.out;omega⟩,⟨(rX HO_y1.out)⟩,⟨(bX BKz1.out)⟩,⟨(hX HB.out)⟩⟩
    replace H:=bE H;obtain⟨t114,A26,H⟩:=H
    replace H:=ifQ H;obtain⟨c27b0,H⟩:=H
    replace H:=ifQ H;obtain⟨c28b0,H⟩:=H
    obtain⟨y115,hy115⟩:∃ y_:List Int,y_=(y113.set (t114:Int).toNat (wrap64 (x4_1+1))):=⟨_,rfl⟩
    replace H:(Xl.l0 k1 y115 (wrap64 (x4_1+1)) l0_0 a0_1)=some r:=yH H hy115
    have Ny115:=aM hy115
    clear hy115
    have H':=aM H
    clear H
    go_wp2_with (first | (refine gD 162 41 Tryz.func162 (XaP.calls _ _ _ A26.out) ?_;intro nd;(try (rw[drewN_self wx2];generalize hq_:World.drewN wx2 _=wx2;have nx1:Aside0 (Kd.R (Kd.int .i64) 3 wx2 w.heap.size (fun _=>True) (.slice (some ⟨gox1,0,none⟩) x3_1.length cox1) y113):=⟨by rw[← hq_];exact(rX HO_y1.out)⟩;have nx2:Aside0 (wx2.heap[gbz1]? = some (.cells #[.slice (some adx1) l0_0.length c0_0,.int .i64 a0_1] 26 (0,0))):=⟨by rw[← hq_];exact(bX BKz1.out)⟩;have nx3:Aside0 (Below w.heap.size w wx2):=⟨by rw[← hq_];exact(hX HB.out)⟩;clear HO_y1 BKz1 HB hq_;have HO_y1:=nx1;have BKz1:=nx2;have HB:=nx3;clear nx1 nx2 nx3));have px4:0≤(t114:Int):=odA;have qx4:(t114:Int)<((x3_1.length:Int):Int):=odA;obtain⟨hxx4,hfx3⟩:=Kd.R_celln 0 HO_y1.out (t114:Int) px4 qx4;replace px4:=eq_true px4;replace qx4:=eq_true qx4;obtain⟨hyx3,hzx3⟩:=Kd.R_celln 0 HO_y1.out (t114:Int) (odA) (odA);have HPx3:=Kd.R_putg HO_y1.out (t114:Int) (wrap64 (x4_1+1))) | ((with_reducible refine gate_store (t:=3) (p:=44) rfl ?_);refine store_event (t:=3) (p:=44) (v:=?vo_wx3) (w1:=(wx2.setCell ⟨gox1,(t114:Int).toNat,none⟩ (.int .i64 (wrap64 (x4_1+1))))) ?hg ?ho ?hn ?hr ?_;(case ho=>rfl);(case hg=>rfl);(case hn=>rfl);(case hr=>first | (go_simp;done) | (go_simp;rfl));intro wx3 hw;have hg:wx2.grownBy wx3 (some gox1):=(by rw[hw];exact HPx3.2);have hp_:Kd.R (Kd.int .i64) 3 wx3 w.heap.size (fun _=>True) (.slice (some ⟨gox1,0,none⟩) x3_1.length cox1) y115:=(by rw[hw,Ny115.out];exact HPx3.1);clear HPx3;replace BKz1:=aM (blk_grown (g:=gbz1) (o:=.cells #[.slice (some adx1) l0_0.length c0_0,.int .i64 a0_1] 26 (0,0)) (bX BKz1.out) hg (Kd.R_ne HO_y1.out BKz1.out (by decide)));replace HO_y1:=aM (hp_);replace HB:=aM ((by rw[hw];exact below_set (HB.out) GBx1.out:Below w.heap.size w wx3));clear hg hw hp_))
    go_roundg k1
    case measure=>have:=HKy1.out;omega
    case rel=>exact⟨(y115),(wrap64 (x4_1+1)),rS,H',⟨by have:=HKy1.out;omega⟩,⟨(rX HO_y1.out)⟩,⟨(bX BKz1.out)⟩,⟨(hX HB.out)⟩⟩
   have H':=aM H
   clear H
   go_wp2
   go_loopg [6] k1 (fun kq v6 w'=>∃ (x3_2:List Int) (x6_2:Int),v6 = .int .i64 x6_2∧Aside0 (Xl.l1 kq x3_2 x6_2 l0_0 a0_1=some r)∧Aside0 (kq≤k1)∧Aside0 (Kd.R (Kd.int .i64) 3 w' w.heap.size (fun _=>True) vz1 x3_2)∧Aside0 (w'.heap[gbz1]? = some (.cells #[(.slice A0_0 l0_0.length c0_0),.int .i64 a0_1] 26 (0,0)))∧Aside0 (Below w.heap.size w w'))
   case atStart=>exact⟨(x3_1),(0),rS,H',⟨Nat.le_refl _⟩,⟨(rX HO_y1.out)⟩,⟨(bX BKz1.out)⟩,⟨(hX HB.out)⟩⟩
   case round =>
    clear H'
    try clear c4
    try clear c4b0
    try clear c4b1
    try clear c10b0
    try clear hczz1
    obtain⟨x3_2,x6_2,rfl,HA,HKw1,HO_y1,BKz1,HB⟩:=hrel
    cases gk with
    | zero=>exact absurd HA.out (by simp[Xl.l1])
    | succ k2 =>
     have H:=HA.out
     clear HA
     simp only[Xl.l1] at H
     revert H;refine iN ?_ ?_<;>intro c44b0 H
     ·replace H:=bE H;obtain⟨t119,A53,H⟩:=H
      replace H:=ifQ H;obtain⟨c54b0,H⟩:=H
      replace H:=ifQ H;obtain⟨c55b0,H⟩:=H
      obtain⟨y120,hy120⟩:∃ y_:List Int,y_=(x3_2.set (t119:Int).toNat a0_1):=⟨_,rfl⟩
      replace H:(some y120)=some r:=yH H hy120
      have Ny120:=aM hy120
      clear hy120
      obtain rfl:=sI H
      try go_wp2
      replace HO_y1:=aM (Kd.R_drew HO_y1.out)
      replace BKz1:=aM (blk_drew BKz1.out)
      replace HB:=aM (below_drew1 HB.out)
      refine start_ (n:=6) (S:=fun w'=>w'.cell? ⟨gbz1,0,none⟩=some (.slice A0_0 l0_0.length c0_0)∧w'.cell? ⟨gbz1,1,none⟩=some (.int .i64 a0_1)) (ds:=[5]) (bm 6 0) (by kernel_rfl) rfl (by kernel_rfl) ⟨cK BKz1.out 0,cK BKz1.out 1⟩ (fun hHeld => ?_)
      generalize wr.drew=wv1 at HO_y1 BKz1 HB hHeld ⊢
      refine pK 0 56 (bm 6 1) ?_
      refine pK 2 58 (bm 6 5) ?_
      refine tK 3 59 (bm 6 13) hHeld ?_
      refine oK 1 (some 57) (bm 6 15) (fun K hK => ?_)
      refine goesN Tryz.func165 #[] ?_
      with_reducible refine(Xar.calls _ _ A53.out).mono ?_
      rintro e w' ⟨rfl,⟨nd,rfl⟩⟩
      refine⟨_,rfl,?_⟩
      have pv1:0≤(t119:Int):=odA
      have qv1:(t119:Int)<((x3_2.length:Int):Int):=odA
      obtain⟨gov1,cov1,eov1,gbv1,glv1,clv1,HGv1⟩:=Kd.R_form HO_y1.out (by omega)
      (first | cases eov1 | (injection eov1 with ea_ en_ ec_;(first | subst ea_ | (injection ea_ with ea_;subst ea_));subst ec_;clear en_))
      have GBv1:=aM gbv1
      have GGv1:=aM HGv1
      clear gbv1 glv1 HGv1
      obtain⟨hxv1,hfv1⟩:=Kd.R_celln 0 HO_y1.out (t119:Int) pv1 qv1
      replace pv1:=eq_true pv1
      replace qv1:=eq_true qv1
      have HPv1:=Kd.R_putn HO_y1.out (t119:Int) a0_1
      rw[← Ny120.out] at HPv1
      have HQv1:=aM HPv1
      clear HPv1
      refine hK.out _ _ ⟨cK BKz1.out 0,cK BKz1.out 1⟩ (fun hHeld => ?_)
      clear hK K
      refine nZ 57 ?_
      refine pK 4 60 (bm 6 31) ?_
      refine last_ (i:=5) (N:=none) #[true,true,true,true,true,true] rfl rfl (by kernel_rfl) (by decide) (fun K hK => ?_)
      refine skip_ (w1:=?_) (by rfl) rfl ?_ ?_
      rotate_left
      ·go_simp
       rfl
      refine hK.out _ _ ?_
      clear hK K
      refine done_ (by kernel_rfl) ?_
      try go_wp2
      go_ret
      exact⟨_,rE,(rX HQv1.out),(hX HB.out)⟩
     replace H:=bE H;obtain⟨t116,A45,H⟩:=H
     replace H:=bE H;obtain⟨t117,A46,H⟩:=H
     replace H:=ifQ H;obtain⟨c47b0,H⟩:=H
     replace H:=ifQ H;obtain⟨c48b0,H⟩:=H
     obtain⟨y118,hy118⟩:∃ y_:List Int,y_=(x3_2.set (t116:Int).toNat t117):=⟨_,rfl⟩
     replace H:(Xl.l1 k2 y118 (wrap64 (x6_2+1)) l0_0 a0_1)=some r:=yH H hy118
     have Ny118:=aM hy118
     clear hy118
     have H':=aM H
     clear H
     try go_wp2
     replace HO_y1:=aM (Kd.R_drew HO_y1.out)
     replace BKz1:=aM (blk_drew BKz1.out)
     replace HB:=aM (below_drew1 HB.out)
     refine start_ (n:=8) (S:=fun w'=>w'.cell? ⟨gbz1,0,none⟩=some (.slice A0_0 l0_0.length c0_0)∧w'.cell? ⟨gbz1,1,none⟩=some (.int .i64 a0_1)) (ds:=[7]) (bm 8 0) (by kernel_rfl) rfl (by kernel_rfl) ⟨cK BKz1.out 0,cK BKz1.out 1⟩ (fun hHeld => ?_);refine with_tabW Xl.tab16 Xl.bits16 (fun HT_ HW_ => ?_)
     generalize wr.drew=wv1 at HO_y1 BKz1 HB hHeld ⊢
     refine pZ 0 49 (bm 8 1) HT_.out ?_
     refine pZ 1 50 (bm 8 3) HT_.out ?_
     refine pZ 4 53 (bm 8 19) HT_.out ?_
     refine tZ 3 52 (bm 8 27) HT_.out HW_.out hHeld ?_
     refine oZ 2 (some 51) (bm 8 31) HT_.out (fun K hK => ?_)
     refine goesN Tryz.func164 #[.int .i64 x6_2] ?_
     with_reducible refine(XaD.calls _ _ _ A45.out).mono ?_
     rintro e w' ⟨rfl,⟨nd,rfl⟩⟩
     refine⟨_,rfl,?_⟩
     refine hK.out _ _ ⟨cK BKz1.out 0,cK BKz1.out 1⟩ (fun hHeld => ?_)
     clear hK K
     refine nZ 51 ?_
     refine oZ 5 (some 54) (bm 8 63) HT_.out (fun K hK => ?_)
     refine goesN Tryz.func163 #[.agg #[.slice A0_0 l0_0.length c0_0,.int .i64 a0_1],.int .i64 x6_2] ?_
     refine(XZ.calls k2 _ _ l0_0 a0_1 x6_2 t117 _ (rW HR0_0 HB HC0_0) A46.out).mono ?_
     rintro e wv2 ⟨rfl,hb⟩
     refine⟨_,rfl,?_⟩
     replace HO_y1:=aQ HO_y1 hb
     replace BKz1:=aB BKz1 hb
     replace HB:=aS HB hb
     (try clear hb)
     (try clear hk)
     have pv1:0≤(t116:Int):=odA
     have qv1:(t116:Int)<((x3_2.length:Int):Int):=odA
     obtain⟨gov1,cov1,eov1,gbv1,glv1,clv1,HGv1⟩:=Kd.R_form HO_y1.out (by omega)
     (first | cases eov1 | (injection eov1 with ea_ en_ ec_;(first | subst ea_ | (injection ea_ with ea_;subst ea_));subst ec_;clear en_))
     have GBv1:=aM gbv1
     have GGv1:=aM HGv1
     clear gbv1 glv1 HGv1
     obtain⟨hxv1,hfv1⟩:=Kd.R_celln 0 HO_y1.out (t116:Int) pv1 qv1
     replace pv1:=eq_true pv1
     replace qv1:=eq_true qv1
     have HPv1:=Kd.R_putn HO_y1.out (t116:Int) t117
     rw[← Ny118.out] at HPv1
     have HQv1:=aM HPv1
     clear HPv1
     refine hK.out _ _ ⟨cK BKz1.out 0,cK BKz1.out 1⟩ (fun hHeld => ?_)
     clear hK K
     refine nZ 54 ?_
     refine pZ 6 55 (bm 8 127) HT_.out ?_
     refine last_ (i:=7) (N:=none) #[true,true,true,true,true,true,true,true] rfl rfl (one_of HT_.out (by kernel_rfl)) (by decide) (fun K hK => ?_)
     refine skip_ (w1:=?_) (by rfl) rfl ?_ ?_
     rotate_left
     ·go_simp
      rfl
     refine hK.out _ _ ?_
     clear hK K
     refine done_ (done_of HT_.out (by kernel_rfl)) ?_
     try go_wp2
     go_roundg k2
     case measure=>have:=HKy1.out;have:=HKw1.out;omega
     case rel=>exact⟨(y118),(wrap64 (x6_2+1)),rS,H',⟨by have:=HKy1.out;have:=HKw1.out;omega⟩,⟨(rX HQv1.out)⟩,⟨by (with_reducible repeat (first | refine blk_drewN ?_ _ | refine blk_drew ?_ | refine blk_alloc ?_ _));refine blk_far ?_ (by have h_:=Kd.R_ne HO_y1.out BKz1.out (by decide);intro e_;exact h_ (by rw[e_];rfl)) _;(with_reducible repeat (first | refine blk_drewN ?_ _ | refine blk_drew ?_ | refine blk_alloc ?_ _));exact BKz1.out⟩,⟨(hX HB.out)⟩⟩
end Go.Proofs.YthejoblnfpaojaaGreat.P
