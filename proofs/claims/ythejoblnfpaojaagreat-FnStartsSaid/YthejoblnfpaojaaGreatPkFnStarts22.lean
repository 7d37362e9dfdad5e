/- A part of the proof of the law FnStarts: texts of this seat, merged (words, printed functions of the program, plain lemmas). Conditions: none of its own. -/
import Derived.Test.YthejoblnfpaojaaGreatPkFnStarts16
import Derived.Test.YthejoblnfpaojaaGreatPkFnStarts17
import Derived.Test.YthejoblnfpaojaaGreatPkFnStarts19
set_option linter.unusedSimpArgs false
set_option linter.unusedVariables false
set_option maxHeartbeats 8000000
set_option maxRecDepth 100000
namespace Go.Proofs.YthejoblnfpaojaaGreat.P
open Go.Proofs.YthejoblnfpaojaaGreatZ Go.RowKit Go.Proofs.YthejoblnfpaojaaGreatW.PrintWords Go.Proofs.YthejoblnfpaojaaGreatW.PrintLast Go.Proofs.YthejoblnfpaojaaGreatW.PrintMore
attribute [local go_sem] max2_int min2_int max_two min_two max_three min_three max_four min_four   -- for this text's walks alone
def Xaz.f (k:Nat) (a0_0:Int) (a0_1:Int) (l0_2:List (S63)) (a0_3:Int) (l0_4:List Int):Option (Bool):=(Xt.f k a0_0 a0_1 l0_2 a0_3 l0_4).bind fun t102=>(some (!t102))
theorem Xaz.calls (k:Nat) (a0_0:Int) (a0_1:Int) (A0_2:Option Addr) (c0_2:Nat) (l0_2:List (S63)) (a0_3:Int) (A0_4:Option Addr) (c0_4:Nat) (l0_4:List Int) (r:Bool) (w:World) (h0_2:Rw k63 w A0_2 c0_2 l0_2) (h0_4:Rw (Kd.int .i64) w A0_4 c0_4 l0_4) (H:Xaz.f k a0_0 a0_1 l0_2 a0_3 l0_4=some r) :
  Calls Tryz.prog 101 #[.agg #[.int .i64 a0_0,.int .i64 a0_1,.slice A0_2 l0_2.length c0_2,.int .i64 a0_3,.slice A0_4 l0_4.length c0_4]] w fun e w'=>e = .returned (.bool r)∧Below w.heap.size w w':=by
 have hu58:=Tryz.underlying58
 obtain⟨HR0_2,HC0_2⟩:=h0_2
 obtain⟨HR0_4,HC0_4⟩:=h0_4
 have HB:=aM (Below.refl w.heap.size w)
 unfold Xaz.f at H
 replace H:=bE H;obtain⟨t102,A2,H⟩:=H
 obtain rfl:=sI H
 go_enter Tryz.func101,Tryz.ntmps101
 go_wp2_with (first | (refine boxE 1 #[.int .i64 a0_0,.int .i64 a0_1,.slice A0_2 l0_2.length c0_2,.int .i64 a0_3,.slice A0_4 l0_4.length c0_4] 58 ?_;intro gbz1 hg wz1 hbox hb;have BKz1:=aM (hbox);have GWz1:=aG hg HB;replace HB:=aS HB hb;clear hb hbox hg;have hczz1:=cZ5 BKz1.out) | (refine gB 33 4 Tryz.func33 (Xt.calls _ _ _ _ _ _ _ _ _ _ _ _ (rW HR0_2 HB HC0_2) (rW HR0_4 HB HC0_4) A2.out) ?_;intro wz2 hb;replace BKz1:=aB BKz1 hb;replace HB:=aS HB hb;clear hb))
 go_ret
 exact⟨rE,(hX HB.out)⟩
def Xam.f (k:Nat) (a0_0:Int) (a0_1:Int) (a0_2:Int):Option (Bool):=(Xx.f k a0_0 a0_1 a0_2).bind fun t102=>(some (!t102))
theorem Xam.calls (k:Nat) (a0_0:Int) (a0_1:Int) (a0_2:Int) (r:Bool) (w:World) (H:Xam.f k a0_0 a0_1 a0_2=some r) :
  Calls Tryz.prog 155 #[.agg #[.int .i64 a0_0,.int .i64 a0_1,.int .i64 a0_2]] w fun e w'=>e = .returned (.bool r)∧Below w.heap.size w w':=by
 have hu78:=Tryz.underlying78
 have HB:=aM (Below.refl w.heap.size w)
 unfold Xam.f at H
 replace H:=bE H;obtain⟨t102,A2,H⟩:=H
 obtain rfl:=sI H
 go_enter Tryz.func155,Tryz.ntmps155
 go_wp2_with (first | (refine boxE 1 #[.int .i64 a0_0,.int .i64 a0_1,.int .i64 a0_2] 78 ?_;intro gbz1 hg wz1 hbox hb;have BKz1:=aM (hbox);have GWz1:=aG hg HB;replace HB:=aS HB hb;clear hb hbox hg;have hczz1:=cZ3 BKz1.out) | (refine gB 90 4 Tryz.func90 (Xx.calls _ _ _ _ _ _ A2.out) ?_;intro wz2 hb;replace BKz1:=aB BKz1 hb;replace HB:=aS HB hb;clear hb))
 go_ret
 exact⟨rE,(hX HB.out)⟩
def XI.l0:Nat→List (S152)→Int→Int→Option (Int)
 | 0,_,_,_=>none
 | k+1,x0,x7,x8=>if x8<x7 then (if 0≤x8 then (if x8<(x0.length:Int) then ((Xal.f ((rd_T152 x0 x8).f0) ((rd_T152 x0 x8).f1)).bind fun t102=>(if t102=true then (some x8) else (XI.l0 k x0 x7 (wrap64 (x8+1))))) else (none)) else (none)) else (some (-1))
def XI.f (k:Nat) (l0:List (S152))  : Option (Int):=XI.l0 k l0 (l0.length:Int) 0
theorem XI.calls (k:Nat) (A0:Option Addr) (c0:Nat) (l0:List (S152)) (r:Int) (w:World) (h0:Rw k152 w A0 c0 l0) (H:XI.f k l0=some r) :
  Calls Tryz.prog 201 #[.slice A0 l0.length c0,.func (.func 157) #[] #[]] w fun e w'=>e = .returned (.int .i64 r)∧Below w.heap.size w w':=by
 have hu152:=Tryz.underlying152
 obtain⟨HR0,HC0⟩:=h0
 have HB:=aM (Below.refl w.heap.size w)
 unfold XI.f at H
 have H':=aM H
 clear H
 go_enter Tryz.func201,Tryz.ntmps201
 go_wp2
 go_loopg [8] k (fun kq v8 w'=>∃ (x8_1:Int),v8 = .int .i64 x8_1∧Aside0 (XI.l0 kq l0 (l0.length:Int) x8_1=some r)∧Aside0 (kq≤k)∧Aside0 (Below w.heap.size w w'))
 case atStart=>exact⟨(0),rS,H',⟨Nat.le_refl _⟩,⟨(hX HB.out)⟩⟩
 case round =>
  clear H'
  obtain⟨x8_1,rfl,HA,HKy1,HB⟩:=hrel
  cases gk with
  | zero=>exact absurd HA.out (by simp[XI.l0])
  | succ k1 =>
   have H:=HA.out
   clear HA
   simp only[XI.l0] at H
   revert H;refine iN ?_ ?_<;>intro c3b0 H
   ·obtain rfl:=sI H
    exact fS
   replace H:=ifQ H;obtain⟨c4b0,H⟩:=H
   replace H:=ifQ H;obtain⟨c5b0,H⟩:=H
   replace H:=bE H;obtain⟨t102,A6,H⟩:=H
   cases t102
   case true =>
    rw[if_pos rfl] at H
    obtain rfl:=sI H
    obtain⟨adx1,ex1,px1,qx1,hxx1⟩:=at_T152c HR0 HB x8_1
    cases ex1
    go_wp2_with ((with_reducible refine Go.Proofs.YthejoblnfpaojaaGreatZ.gate_calleeT (t:=11) rfl ?_);refine Go.Proofs.YthejoblnfpaojaaGreatZ.goesT_ (some 16) 11 rfl rfl Tryz.func157 (by kernel_rfl) rfl #[.agg #[.int .i64 ((rd_T152 l0 x8_1).f0),.int .i64 ((rd_T152 l0 x8_1).f1)]] rfl rfl (by (try simp only[List.map_toArray,List.map_cons,List.map_nil]);first | done | rfl | (simp only[List.length_drop,List.length_take];rfl)) ?_;(with_reducible refine(Xal.calls _ _ _ _ A6.out).mono ?_);rintro e wx1 ⟨rfl,hb⟩;refine⟨_,rfl,?_⟩;replace HB:=aS HB hb;clear hb)
    go_ret
    exact⟨rE,(hX HB.out)⟩
   rw[if_neg nft] at H
   have H':=aM H
   clear H
   obtain⟨adx1,ex1,px1,qx1,hxx1⟩:=at_T152c HR0 HB x8_1
   cases ex1
   go_wp2_with ((with_reducible refine Go.Proofs.YthejoblnfpaojaaGreatZ.gate_calleeT (t:=11) rfl ?_);refine Go.Proofs.YthejoblnfpaojaaGreatZ.goesT_ (some 16) 11 rfl rfl Tryz.func157 (by kernel_rfl) rfl #[.agg #[.int .i64 ((rd_T152 l0 x8_1).f0),.int .i64 ((rd_T152 l0 x8_1).f1)]] rfl rfl (by (try simp only[List.map_toArray,List.map_cons,List.map_nil]);first | done | rfl | (simp only[List.length_drop,List.length_take];rfl)) ?_;(with_reducible refine(Xal.calls _ _ _ _ A6.out).mono ?_);rintro e wx1 ⟨rfl,hb⟩;refine⟨_,rfl,?_⟩;replace HB:=aS HB hb;clear hb)
   go_roundg k1
   case measure=>have:=HKy1.out;omega
   case rel=>exact⟨(wrap64 (x8_1+1)),rS,H',⟨by have:=HKy1.out;omega⟩,⟨(hX HB.out)⟩⟩
def Xah.f (k:Nat) (l0:List (S154)) (a1:Int):Option (Bool):=(XH.f k l0 a1).bind fun t101=>(some (decide (t101 ≥ 0)))
theorem Xah.calls (k:Nat) (A0:Option Addr) (c0:Nat) (l0:List (S154)) (gc1:Nat) (a1:Int) (r:Bool) (w:World) (h0:Rw k154 w A0 c0 l0) (hbc1:w.heap[gc1]? = some (.cells #[.int .i64 a1] 3 (0,0))) (H:Xah.f k l0 a1=some r) :
  Calls Tryz.prog 158 #[.slice A0 l0.length c0,.func (.func 159) #[] #[.pointer (some ⟨gc1,0,none⟩)]] w fun e w'=>e = .returned (.bool r)∧Below w.heap.size w w':=by
 obtain⟨HR0,HC0⟩:=h0
 have BKz1:=aM hbc1
 clear hbc1
 have HB:=aM (Below.refl w.heap.size w)
 unfold Xah.f at H
 replace H:=bE H;obtain⟨tz1,Az1,H⟩:=H
 obtain rfl:=sI H
 go_enter Tryz.func158,Tryz.ntmps158
 go_wp2_with (refine gB 202 7 Tryz.func202 (XH.calls k _ _ l0 gc1 a1 tz1 _ (rw2 (cX HR0.out) HC0.out) (by exact(bX BKz1.out)) Az1.out) ?_;intro wz1 hb;replace BKz1:=aB BKz1 hb;replace HB:=aS HB hb;clear hb)
 go_ret
 exact⟨rE,(hX HB.out)⟩
def XK.l0:Nat→List Int→List Int→Int→Int→List Int→Int→Option (List Int)
 | 0,_,_,_,_,_,_=>none
 | k+1,x3,x15,x16,x17,x102000,x102001=>if x17<x16 then (if 0≤x17 then (if x17<(x15.length:Int) then (if (rd x15 x17)=0 then (XK.l0 k x3 x15 x16 (wrap64 (x17+1)) x102000 x102001) else ((XaG.f (rd x15 x17)).bind fun t111=>(if 0≤t111 then (if t111<(x3.length:Int) then ((some (x3.set (t111:Int).toNat (wrap64 (x17+1)):List Int)).bind fun y112=>((Xat.f (rd x15 x17)).bind fun t113=>((XaH.f t113).bind fun t114=>(if 0≤t114 then (if t114<(x3.length:Int) then ((some (y112.set (t114:Int).toNat (wrap64 ((rd y112 t114)+1)):List Int)).bind fun y116=>(if x17<(wrap64 (x102001 - 1)) then ((XaN.f (rd x15 x17)).bind fun t117=>(if 0≤t117 then (if t117<(x3.length:Int) then (XK.l0 k (y116.set (t117:Int).toNat (wrap64 (x17+1))) x15 x16 (wrap64 (x17+1)) x102000 x102001) else (none)) else (none))) else (XK.l0 k y116 x15 x16 (wrap64 (x17+1)) x102000 x102001))) else (none)) else (none))))) else (none)) else (none)))) else (none)) else (none)) else ((Xaq.f).bind fun t108=>(if 0≤t108 then (if t108<(x3.length:Int) then (some (x3.set (t108:Int).toNat x102001)) else (none)) else (none)))
def XK.f (k:Nat) (l0_0:List Int) (a0_1:Int):Option (List Int):=(XP.f k l0_0 a0_1).bind fun t102=>(if t102=true then (if 20≤35184372088832 then ((Go.Proofs.YthejoblnfpaojaaGreatZ.copy_int.f (List.replicate 20 0) l0_0).bind fun bt106=>(XK.l0 k bt106.2 l0_0 (l0_0.length:Int) 0 l0_0 a0_1)) else (none)) else (some ([]:List Int)))
theorem XK.calls (k:Nat) (A0_0:Option Addr) (c0_0:Nat) (l0_0:List Int) (a0_1:Int) (r:List Int) (w:World) (h0_0:Rw (Kd.int .i64) w A0_0 c0_0 l0_0) (H:XK.f k l0_0 a0_1=some r) :
  Calls Tryz.prog 41 #[.agg #[.slice A0_0 l0_0.length c0_0,.int .i64 a0_1]] w fun e w'=>∃ v0_:Value,e = .returned (v0_)∧Kd.R (Kd.int .i64) 3 w' w.heap.size (fun _=>True) v0_ r∧Below w.heap.size w w':=by
 have hu26:=Tryz.underlying26
 obtain⟨HR0_0,HC0_0⟩:=h0_0
 have HB:=aM (Below.refl w.heap.size w)
 unfold XK.f at H
 replace H:=bE H;obtain⟨t102,A2,H⟩:=H
 go_enter Tryz.func41,Tryz.ntmps41
 go_wp2_with (refine boxE 1 #[.slice A0_0 l0_0.length c0_0,.int .i64 a0_1] 26 ?_;intro gbz1 hg wz1 hbox hb;have BKz1:=aM (hbox);have GWz1:=aG hg HB;have GEz1:=aG hg HB;replace HB:=aS HB hb;clear hb hbox hg;have hczz1:=cZ2 BKz1.out;refine Stop.out ?_)
 refine⟨?_⟩
 cases t102
 case false =>
  rw[if_neg nft] at H
  obtain rfl:=sI H
  go_wp2_with (refine gB 64 7 Tryz.func64 (XP.calls _ _ _ _ _ _ _ (rW HR0_0 HB HC0_0) A2.out) ?_;intro wz2 hb;replace BKz1:=aB BKz1 hb;replace HB:=aS HB hb;clear hb)
  go_ret
  exact⟨(Value.slice none 0 0),rE,(by first | exact Kd.R_nil _ _ _ _ _ | exact Kd.S_nil _ _ _ _ _ | exact Kd.V_nil _ _ _ _ _ | exact Kd.N_nil _ _ _ _ _ | exact Kd.Q_nil _ _ _ _ _),(hX HB.out)⟩
 rw[if_pos rfl] at H
 replace H:=ifP H;obtain⟨c4,H⟩:=H
 have c4b0:=eq_true c4
 have c4b1:=decide_eq_true c4
 clear c4
 obtain⟨y103,hy103⟩:∃ y_:List Int,y_=(List.replicate 20 0):=⟨_,rfl⟩
 replace H:((Go.Proofs.YthejoblnfpaojaaGreatZ.copy_int.f y103 l0_0).bind fun bt106=>(XK.l0 k bt106.2 l0_0 (l0_0.length:Int) 0 l0_0 a0_1))=some r:=yH H hy103
 have Ny103:=aM hy103
 clear hy103
 replace H:=bE H;obtain⟨⟨t106,t107⟩,A5,H⟩:=H
 try dsimp only at H
 have H':=aM H
 clear H
 go_wp2_with (first | (refine gB 64 7 Tryz.func64 (XP.calls _ _ _ _ _ _ _ (rW HR0_0 HB HC0_0) A2.out) ?_;intro wz2 hb;replace BKz1:=aB BKz1 hb;replace HB:=aS HB hb;clear hb) | ((with_reducible refine gate_dst (N:=9) rfl ?_);refine Kd.R_make (Kd.int .i64) _ 3 rfl (N:=9) rfl 24 _ _ rfl 20 rfl rfl Tryz.underlying24 (.int .i64 0) 8 info3 rfl (by decide) (by omega) 0 (ok:=fun _=>True) (okp:=fun _=>True) rfl (fun _ hk=>hk) trivial (by omega) (by omega) (Below.refl _ _) (Nat.le_refl _) ?_;intro vz1 wz3 hoz1 hb hg_ hnew_;clear hg_ hnew_;(first | rw[← Ny103.out] at hoz1 | (simp only[Int.reduceToNat] at hoz1;rw[← Ny103.out] at hoz1));have HOz1:=aM (Kd.R_lower hoz1 (below_size (hX HB.out)));replace BKz1:=aB BKz1 hb;replace HB:=aS HB hb;clear hb hoz1;have hczz3:=cZ2 BKz1.out;obtain⟨Aoz1,coz1,eoz1⟩:=Kd.R_slice HOz1.out;subst eoz1) | ((with_reducible refine gate_builtin (b:=.copy) rfl ?_);refine Go.Proofs.YthejoblnfpaojaaGreatZ.goesCopy_ (some 13) rfl rfl Tryz.underlying24 (by kernel_rfl) (.slice Aoz1 y103.length coz1) (.slice A0_0 l0_0.length c0_0) rfl rfl rfl ?_;(with_reducible refine(Go.Proofs.YthejoblnfpaojaaGreatZ.copy_int.calls (fun k_=>some k_=(.slice Aoz1 y103.length coz1:Value).ownBlock) (.slice Aoz1 y103.length coz1) y103 _ _ l0_0 t106 t107 w _ ?side1 ?side2 ?side3 ?side4 A5.out).mono ?_);(case side1=>repeat (first | (with_reducible first | exact HB.out | apply below_alloc | apply pw_below_drewN | apply below_drew1 | refine below_set ?_ GEz1.out) | exact HB.out));(case side2=>exact Kd.R_tight rfl HOz1.out);(case side3=>exact Kd.C_kept_came (Kd.heap_int .i64) HR0_0.out (hX HB.out) (fun k_ hs_=>(fun e_=>Kd.R_base HOz1.out k_ e_.symm) hs_));(case side4=>exact HC0_0.out);rintro e wz4 ⟨rfl,hyz1,hb,hkp⟩;refine⟨_,rfl,?_⟩;replace BKz1:=aM (blk_kept (bX BKz1.out) hkp (fun hs_=>(fun e_=>(Kd.R_ne HOz1.out BKz1.out (by decide)) e_) hs_));replace HOz1:=aM (Kd.R_reok rfl hyz1 (fun k_ e_=>HOz1.out.1 k_ e_));replace HB:=aM (hb);clear hb hkp hyz1;have hczz5:=cZ2 BKz1.out))
 go_loopg [17] k (fun kq v17 w'=>∃ (x3_1:List Int) (x17_1:Int),v17 = .int .i64 x17_1∧Aside0 (XK.l0 kq x3_1 l0_0 (l0_0.length:Int) x17_1 l0_0 a0_1=some r)∧Aside0 (kq≤k)∧Aside0 (Kd.R (Kd.int .i64) 3 w' w.heap.size (fun _=>True) (.slice Aoz1 y103.length coz1) x3_1)∧Aside0 (w'.heap[gbz1]? = some (.cells #[(.slice A0_0 l0_0.length c0_0),.int .i64 a0_1] 26 (0,0)))∧Aside0 (Below w.heap.size w w'))
 case atStart=>exact⟨(t107),(0),rS,H',⟨Nat.le_refl _⟩,⟨(rX HOz1.out)⟩,⟨(bX BKz1.out)⟩,⟨(hX HB.out)⟩⟩
 case round =>
  clear H'
  try clear c4
  try clear c4b0
  try clear c4b1
  try clear hczz3
  try clear hczz5
  try clear hczz1
  obtain⟨x3_1,x17_1,rfl,HA,HKy1,HO_y1,BKz1,HB⟩:=hrel
  have hly1:=(Kd.R_reads' HO_y1.out).1
  rw[hly1] at HO_y1
  (try simp only[hly1])
  (try simp only[hly1] at BKz1)
  cases gk with
  | zero=>exact absurd HA.out (by simp[XK.l0])
  | succ k1 =>
   have H:=HA.out
   clear HA
   simp only[XK.l0] at H
   revert H;refine iN ?_ ?_<;>intro c15b0 H
   ·replace H:=bE H;obtain⟨t108,A45,H⟩:=H
    replace H:=ifQ H;obtain⟨c46b0,H⟩:=H
    replace H:=ifQ H;obtain⟨c47b0,H⟩:=H
    obtain⟨y109,hy109⟩:∃ y_:List Int,y_=(x3_1.set (t108:Int).toNat a0_1):=⟨_,rfl⟩
    replace H:(some y109)=some r:=yH H hy109
    have Ny109:=aM hy109
    clear hy109
    obtain rfl:=sI H
    try go_wp2
    replace HO_y1:=aM (Kd.R_drew HO_y1.out)
    replace BKz1:=aM (blk_drew BKz1.out)
    replace HB:=aM (below_drew1 HB.out)
    refine start_ (n:=6) (S:=fun w'=>w'.cell? ⟨gbz1,0,none⟩=some (.slice A0_0 l0_0.length c0_0)∧w'.cell? ⟨gbz1,1,none⟩=some (.int .i64 a0_1)) (ds:=[5]) (bm 6 0) (by kernel_rfl) rfl (by kernel_rfl) ⟨cK BKz1.out 0,cK BKz1.out 1⟩ (fun hHeld => ?_)
    generalize wr.drew=wx1 at HO_y1 BKz1 HB hHeld ⊢
    refine pK 0 50 (bm 6 1) ?_
    refine pK 2 52 (bm 6 5) ?_
    refine tK 3 53 (bm 6 13) hHeld ?_
    refine oK 1 (some 51) (bm 6 15) (fun K hK => ?_)
    refine goesN Tryz.func111 #[] ?_
    with_reducible refine(Xaq.calls _ _ A45.out).mono ?_
    rintro e w' ⟨rfl,⟨nd,rfl⟩⟩
    refine⟨_,rfl,?_⟩
    have px1:0≤(t108:Int):=odA
    have qx1:(t108:Int)<((x3_1.length:Int):Int):=odA
    obtain⟨gox1,cox1,eox1,gbx1,glx1,clx1,HGx1⟩:=Kd.R_form HO_y1.out (by omega)
    (first | cases eox1 | (injection eox1 with ea_ en_ ec_;(first | subst ea_ | (injection ea_ with ea_;subst ea_));subst ec_;clear en_))
    have GBx1:=aM gbx1
    have GGx1:=aM HGx1
    clear gbx1 glx1 HGx1
    obtain⟨hxx1,hfx1⟩:=Kd.R_celln 0 HO_y1.out (t108:Int) px1 qx1
    replace px1:=eq_true px1
    replace qx1:=eq_true qx1
    have HPx1:=Kd.R_putn HO_y1.out (t108:Int) a0_1
    rw[← Ny109.out] at HPx1
    have HQx1:=aM HPx1
    clear HPx1
    refine hK.out _ _ ⟨cK BKz1.out 0,cK BKz1.out 1⟩ (fun hHeld => ?_)
    clear hK K
    refine nZ 51 ?_
    refine pK 4 54 (bm 6 31) ?_
    refine last_ (i:=5) (N:=none) #[true,true,true,true,true,true] rfl rfl (by kernel_rfl) (by decide) (fun K hK => ?_)
    refine skip_ (w1:=?_) (by rfl) rfl ?_ ?_
    rotate_left
    ·go_simp
     rfl
    refine hK.out _ _ ?_
    clear hK K
    refine done_ (by kernel_rfl) ?_
    try go_wp2
    go_ret
    exact⟨_,rE,(rX HQx1.out),(hX HB.out)⟩
   replace H:=ifQ H;obtain⟨c16b0,H⟩:=H
   replace H:=ifQ H;obtain⟨c17b0,H⟩:=H
   revert H;refine eP ?_ ?_<;>intro c18b0 c18b1 H
   ·have H':=aM H
    clear H
    obtain⟨adx1,ex1,px1,qx1,hxx1⟩:=at_ic HR0_0 HB x17_1
    cases ex1
    go_wp2
    (try simp only[← hly1])
    go_roundg k1
    case measure=>have:=HKy1.out;omega
    case rel=>exact⟨(x3_1),(wrap64 (x17_1+1)),rS,H',⟨by have:=HKy1.out;omega⟩,⟨by (try simp only[hly1]);(with_reducible repeat (first | apply Kd.R_alloc | apply Kd.R_drewN | apply Kd.R_drew));exact HO_y1.out⟩,⟨by (try simp only[hly1]);(with_reducible repeat (first | refine blk_drewN ?_ _ | refine blk_drew ?_ | refine blk_alloc ?_ _));exact BKz1.out⟩,⟨(hX HB.out)⟩⟩
   replace H:=bE H;obtain⟨t111,A19,H⟩:=H
   replace H:=ifQ H;obtain⟨c20b0,H⟩:=H
   replace H:=ifQ H;obtain⟨c21b0,H⟩:=H
   replace H:=sE H;obtain⟨y112,Ny112,H⟩:=H
   replace H:=bE H;obtain⟨t113,A23,H⟩:=H
   replace H:=bE H;obtain⟨t114,A24,H⟩:=H
   replace H:=ifQ H;obtain⟨c25b0,H⟩:=H
   replace H:=ifQ H;obtain⟨c26b0,H⟩:=H
   replace H:=sE H;obtain⟨y116,Ny116,H⟩:=H
   obtain⟨adx1,ex1,px1,qx1,hxx1⟩:=at_ic HR0_0 HB x17_1
   cases ex1
   go_wp2_with (first | (refine gD 107 26 Tryz.func107 (XaG.calls _ _ _ A19.out) ?_;intro nd;(try (rw[drewN_self wr];generalize hq_:World.drewN wr _=wr;have nx1:Aside0 (Kd.R (Kd.int .i64) 3 wr w.heap.size (fun _=>True) (.slice Aoz1 x3_1.length coz1) x3_1):=⟨by rw[← hq_];exact(rX HO_y1.out)⟩;have nx2:Aside0 (wr.heap[gbz1]? = some (.cells #[.slice (some adx1) l0_0.length c0_0,.int .i64 a0_1] 26 (0,0))):=⟨by rw[← hq_];exact(bX BKz1.out)⟩;have nx3:Aside0 (Below w.heap.size w wr):=⟨by rw[← hq_];exact(hX HB.out)⟩;clear HO_y1 BKz1 HB hq_;have HO_y1:=nx1;have BKz1:=nx2;have HB:=nx3;clear nx1 nx2 nx3));have px2:0≤(t111:Int):=odA;have qx2:(t111:Int)<((x3_1.length:Int):Int):=odA;obtain⟨gox1,cox1,eox1,gbx1,glx1,clx1,HGx1⟩:=Kd.R_form HO_y1.out (by omega);(first | cases eox1 | (injection eox1 with ea_ en_ ec_;(first | subst ea_ | (injection ea_ with ea_;subst ea_));subst ec_;clear en_));have GBx1:=aM gbx1;have GGx1:=aM HGx1;clear gbx1 glx1 HGx1;obtain⟨hxx2,hfx1⟩:=Kd.R_celln 0 HO_y1.out (t111:Int) px2 qx2;replace px2:=eq_true px2;replace qx2:=eq_true qx2;obtain⟨hyx1,hzx1⟩:=Kd.R_celln 0 HO_y1.out (t111:Int) (odA) (odA);have HPx1:=Kd.R_putg HO_y1.out (t111:Int) (wrap64 (x17_1+1))) | ((with_reducible refine gate_store (t:=3) (p:=29) rfl ?_);refine store_event (t:=3) (p:=29) (v:=?vo_wx1) (w1:=(wr.setCell ⟨gox1,(t111:Int).toNat,none⟩ (.int .i64 (wrap64 (x17_1+1))))) ?hg ?ho ?hn ?hr ?_;(case ho=>rfl);(case hg=>rfl);(case hn=>rfl);(case hr=>first | (go_simp;done) | (go_simp;rfl));intro wx1 hw;have hg:wr.grownBy wx1 (some gox1):=(by rw[hw];exact HPx1.2);have hp_:Kd.R (Kd.int .i64) 3 wx1 w.heap.size (fun _=>True) (.slice (some ⟨gox1,0,none⟩) x3_1.length coz1) y112:=(by rw[hw,Ny112.out];exact HPx1.1);clear HPx1;replace BKz1:=aM (blk_grown (g:=gbz1) (o:=.cells #[.slice (some adx1) l0_0.length c0_0,.int .i64 a0_1] 26 (0,0)) (bX BKz1.out) hg (Kd.R_ne HO_y1.out BKz1.out (by decide)));replace HO_y1:=aM (hp_);replace HB:=aM ((by rw[hw];exact below_set (HB.out) GBx1.out:Below w.heap.size w wx1));clear hg hw hp_) | (refine gD 109 32 Tryz.func109 (Xat.calls _ _ _ A23.out) ?_;intro nd;(try (rw[drewN_self wx1];generalize hq_:World.drewN wx1 _=wx1;have nx1:Aside0 (Kd.R (Kd.int .i64) 3 wx1 w.heap.size (fun _=>True) (.slice (some ⟨gox1,0,none⟩) x3_1.length coz1) y112):=⟨by rw[← hq_];exact(rX HO_y1.out)⟩;have nx2:Aside0 (wx1.heap[gbz1]? = some (.cells #[.slice (some adx1) l0_0.length c0_0,.int .i64 a0_1] 26 (0,0))):=⟨by rw[← hq_];exact(bX BKz1.out)⟩;have nx3:Aside0 (Below w.heap.size w wx1):=⟨by rw[← hq_];exact(hX HB.out)⟩;clear HO_y1 BKz1 HB hq_;have HO_y1:=nx1;have BKz1:=nx2;have HB:=nx3;clear nx1 nx2 nx3))) | (refine gD 108 33 Tryz.func108 (XaH.calls _ _ _ A24.out) ?_;intro nd;(try (rw[drewN_self wx1];generalize hq_:World.drewN wx1 _=wx1;have nx1:Aside0 (Kd.R (Kd.int .i64) 3 wx1 w.heap.size (fun _=>True) (.slice (some ⟨gox1,0,none⟩) x3_1.length coz1) y112):=⟨by rw[← hq_];exact(rX HO_y1.out)⟩;have nx2:Aside0 (wx1.heap[gbz1]? = some (.cells #[.slice (some adx1) l0_0.length c0_0,.int .i64 a0_1] 26 (0,0))):=⟨by rw[← hq_];exact(bX BKz1.out)⟩;have nx3:Aside0 (Below w.heap.size w wx1):=⟨by rw[← hq_];exact(hX HB.out)⟩;clear HO_y1 BKz1 HB hq_;have HO_y1:=nx1;have BKz1:=nx2;have HB:=nx3;clear nx1 nx2 nx3));have px3:0≤(t114:Int):=odA;have qx3:t114<(y112.length:Int):=(by have h_:(t114:Int)<((x3_1.length:Int):Int):=odA;first | (have e_:=(Kd.R_reads' HO_y1.out).1;omega) | simpa only[Ny112.out,List.length_set] using h_);have qlx1:((t114:Int)<((x3_1.length:Int):Int))=True:=eq_true (odA);obtain⟨adx2,ex2,hxx3⟩:=Kd.at_int (Kd.R_reads' HO_y1.out).2.2 t114 px3 qx3;obtain rfl:(⟨gox1,0,none⟩:Addr)=adx2:=(by injection ex2);(first | simp only[add_plain] at hxx3 | simp only[add_at] at hxx3 | simp only[Addr.add,Nat.zero_add] at hxx3 | skip);replace px3:=eq_true px3;replace qx3:=eq_true qx3;have px4:0≤(t114:Int):=odA;have qx4:(t114:Int)<((x3_1.length:Int):Int):=odA;obtain⟨hxx4,hfx2⟩:=Kd.R_celln 0 HO_y1.out (t114:Int) px4 qx4;replace px4:=eq_true px4;replace qx4:=eq_true qx4;obtain⟨hyx2,hzx2⟩:=Kd.R_celln 0 HO_y1.out (t114:Int) (odA) (odA);have HPx2:=Kd.R_putg HO_y1.out (t114:Int) (wrap64 ((rd y112 t114)+1))) | ((with_reducible refine gate_store (t:=3) (p:=37) rfl ?_);refine store_event (t:=3) (p:=37) (v:=?vo_wx2) (w1:=(wx1.setCell ⟨gox1,(t114:Int).toNat,none⟩ (.int .i64 (wrap64 ((rd y112 t114)+1))))) ?hg ?ho ?hn ?hr ?_;(case ho=>rfl);(case hg=>rfl);(case hn=>rfl);(case hr=>first | (go_simp;done) | (go_simp;rfl));intro wx2 hw;have hg:wx1.grownBy wx2 (some gox1):=(by rw[hw];exact HPx2.2);have hp_:Kd.R (Kd.int .i64) 3 wx2 w.heap.size (fun _=>True) (.slice (some ⟨gox1,0,none⟩) x3_1.length coz1) y116:=(by rw[hw,Ny116.out];exact HPx2.1);clear HPx2;replace BKz1:=aM (blk_grown (g:=gbz1) (o:=.cells #[.slice (some adx1) l0_0.length c0_0,.int .i64 a0_1] 26 (0,0)) (bX BKz1.out) hg (Kd.R_ne HO_y1.out BKz1.out (by decide)));replace HO_y1:=aM (hp_);replace HB:=aM ((by rw[hw];exact below_set (HB.out) GBx1.out:Below w.heap.size w wx2));clear hg hw hp_;have hczx1:=cZ2 BKz1.out;refine Stop.out ?_))
   refine⟨?_⟩
   revert H;refine iN ?_ ?_<;>intro c28b0 H
   ·have H':=aM H
    clear H
    go_wp2
    (try simp only[← hly1])
    go_roundg k1
    case measure=>have:=HKy1.out;omega
    case rel=>exact⟨(y116),(wrap64 (x17_1+1)),rS,H',⟨by have:=HKy1.out;omega⟩,⟨by (try simp only[hly1]);(with_reducible repeat (first | apply Kd.R_alloc | apply Kd.R_drewN | apply Kd.R_drew));exact HO_y1.out⟩,⟨by (try simp only[hly1]);(with_reducible repeat (first | refine blk_drewN ?_ _ | refine blk_drew ?_ | refine blk_alloc ?_ _));exact BKz1.out⟩,⟨(hX HB.out)⟩⟩
   replace H:=bE H;obtain⟨t117,A29,H⟩:=H
   replace H:=ifQ H;obtain⟨c30b0,H⟩:=H
   replace H:=ifQ H;obtain⟨c31b0,H⟩:=H
   obtain⟨y118,hy118⟩:∃ y_:List Int,y_=(y116.set (t117:Int).toNat (wrap64 (x17_1+1))):=⟨_,rfl⟩
   replace H:(XK.l0 k1 y118 l0_0 (l0_0.length:Int) (wrap64 (x17_1+1)) l0_0 a0_1)=some r:=yH H hy118
   have Ny118:=aM hy118
   clear hy118
   have H':=aM H
   clear H
   go_wp2_with (first | (refine gD 110 45 Tryz.func110 (XaN.calls _ _ _ A29.out) ?_;intro nd;(try (rw[drewN_self wx2];generalize hq_:World.drewN wx2 _=wx2;have nx1:Aside0 (Kd.R (Kd.int .i64) 3 wx2 w.heap.size (fun _=>True) (.slice (some ⟨gox1,0,none⟩) x3_1.length coz1) y116):=⟨by rw[← hq_];exact(rX HO_y1.out)⟩;have nx2:Aside0 (wx2.heap[gbz1]? = some (.cells #[.slice (some adx1) l0_0.length c0_0,.int .i64 a0_1] 26 (0,0))):=⟨by rw[← hq_];exact(bX BKz1.out)⟩;have nx3:Aside0 (Below w.heap.size w wx2):=⟨by rw[← hq_];exact(hX HB.out)⟩;clear HO_y1 BKz1 HB hq_;have HO_y1:=nx1;have BKz1:=nx2;have HB:=nx3;clear nx1 nx2 nx3));have px5:0≤(t117:Int):=odA;have qx5:(t117:Int)<((x3_1.length:Int):Int):=odA;obtain⟨hxx5,hfx3⟩:=Kd.R_celln 0 HO_y1.out (t117:Int) px5 qx5;replace px5:=eq_true px5;replace qx5:=eq_true qx5;obtain⟨hyx3,hzx3⟩:=Kd.R_celln 0 HO_y1.out (t117:Int) (odA) (odA);have HPx3:=Kd.R_putg HO_y1.out (t117:Int) (wrap64 (x17_1+1))) | ((with_reducible refine gate_store (t:=3) (p:=48) rfl ?_);refine store_event (t:=3) (p:=48) (v:=?vo_wx3) (w1:=(wx2.setCell ⟨gox1,(t117:Int).toNat,none⟩ (.int .i64 (wrap64 (x17_1+1))))) ?hg ?ho ?hn ?hr ?_;(case ho=>rfl);(case hg=>rfl);(case hn=>rfl);(case hr=>first | (go_simp;done) | (go_simp;rfl));intro wx3 hw;have hg:wx2.grownBy wx3 (some gox1):=(by rw[hw];exact HPx3.2);have hp_:Kd.R (Kd.int .i64) 3 wx3 w.heap.size (fun _=>True) (.slice (some ⟨gox1,0,none⟩) x3_1.length coz1) y118:=(by rw[hw,Ny118.out];exact HPx3.1);clear HPx3;replace BKz1:=aM (blk_grown (g:=gbz1) (o:=.cells #[.slice (some adx1) l0_0.length c0_0,.int .i64 a0_1] 26 (0,0)) (bX BKz1.out) hg (Kd.R_ne HO_y1.out BKz1.out (by decide)));replace HO_y1:=aM (hp_);replace HB:=aM ((by rw[hw];exact below_set (HB.out) GBx1.out:Below w.heap.size w wx3));clear hg hw hp_))
   (try simp only[← hly1])
   go_roundg k1
   case measure=>have:=HKy1.out;omega
   case rel=>exact⟨(y118),(wrap64 (x17_1+1)),rS,H',⟨by have:=HKy1.out;omega⟩,⟨by (try simp only[hly1]);(with_reducible repeat (first | apply Kd.R_alloc | apply Kd.R_drewN | apply Kd.R_drew));exact HO_y1.out⟩,⟨by (try simp only[hly1]);(with_reducible repeat (first | refine blk_drewN ?_ _ | refine blk_drew ?_ | refine blk_alloc ?_ _));exact BKz1.out⟩,⟨(hX HB.out)⟩⟩
def XZ.l0:Nat→Int→Int→Int→List Int→Int→Option (Int)
 | 0,_,_,_,_,_=>none
 | k+1,x1,x5,x6,x102000,x102001=>if x6<(x102000.length:Int) then (if 0≤x6 then ((XE.f (rd x102000 x6)).bind fun t103=>(if t103=true then ((XaJ.f (rd x102000 x6)).bind fun t105=>((Xag.f (t105 == x1)).bind fun t106=>(XZ.l0 k x1 (wrap64 (x5+t106)) (wrap64 (x6+1)) x102000 x102001))) else ((Xag.f false).bind fun t107=>(XZ.l0 k x1 (wrap64 (x5+t107)) (wrap64 (x6+1)) x102000 x102001)))) else (none)) else (some x5)
def XZ.f (k:Nat) (l0_0:List Int) (a0_1:Int) (a1:Int):Option (Int):=XZ.l0 k a1 0 0 l0_0 a0_1
theorem XZ.calls (k:Nat) (A0_0:Option Addr) (c0_0:Nat) (l0_0:List Int) (a0_1:Int) (a1:Int) (r:Int) (w:World) (h0_0:Rw (Kd.int .i64) w A0_0 c0_0 l0_0) (H:XZ.f k l0_0 a0_1 a1=some r) :
  Calls Tryz.prog 163 #[.agg #[.slice A0_0 l0_0.length c0_0,.int .i64 a0_1],.int .i64 a1] w fun e w'=>e = .returned (.int .i64 r)∧Below w.heap.size w w':=by
 have hu26:=Tryz.underlying26
 obtain⟨HR0_0,HC0_0⟩:=h0_0
 have HB:=aM (Below.refl w.heap.size w)
 unfold XZ.f at H
 have H':=aM H
 clear H
 go_enter Tryz.func163,Tryz.ntmps163
 go_wp2_with (refine boxE 2 #[.slice A0_0 l0_0.length c0_0,.int .i64 a0_1] 26 ?_;intro gbz1 hg wz1 hbox hb;have BKz1:=aM (hbox);have GWz1:=aG hg HB;replace HB:=aS HB hb;clear hb hbox hg)
 go_loopg [5,6] k (fun kq v5 v6 w'=>∃ (x5_1:Int) (x6_1:Int),v5 = .int .i64 x5_1∧v6 = .int .i64 x6_1∧Aside0 (XZ.l0 kq a1 x5_1 x6_1 l0_0 a0_1=some r)∧Aside0 (kq≤k)∧Aside0 (w'.heap[gbz1]? = some (.cells #[(.slice A0_0 l0_0.length c0_0),.int .i64 a0_1] 26 (0,0)))∧Aside0 (Below w.heap.size w w'))
 case atStart=>exact⟨(0),(0),rS,rS,H',⟨Nat.le_refl _⟩,⟨(bX BKz1.out)⟩,⟨(hX HB.out)⟩⟩
 case round =>
  clear H'
  obtain⟨x5_1,x6_1,rfl,rfl,HA,HKy1,BKz1,HB⟩:=hrel
  cases gk with
  | zero=>exact absurd HA.out (by simp[XZ.l0])
  | succ k1 =>
   have H:=HA.out
   clear HA
   simp only[XZ.l0] at H
   revert H;refine iN ?_ ?_<;>intro c4b0 H
   ·obtain rfl:=sI H
    have hczx1:=cZ2 BKz1.out
    exact fS
   replace H:=ifQ H;obtain⟨c5b0,H⟩:=H
   replace H:=bE H;obtain⟨t103,A6,H⟩:=H
   cases t103
   case false =>
    rw[if_neg nft] at H
    replace H:=bE H;obtain⟨t107,A11,H⟩:=H
    have H':=aM H
    clear H
    have hczx1:=cZ2 BKz1.out
    obtain⟨adx1,ex1,px1,qx1,hxx1⟩:=at_ic HR0_0 HB x6_1
    cases ex1
    go_wp2_with (first | (refine gD 182 20 Tryz.func182 (XE.calls _ _ _ A6.out) ?_;intro nd) | (refine gD 195 31 Tryz.func195 (Xag.calls _ _ _ A11.out) ?_;intro nd))
    go_roundg k1
    case measure=>have:=HKy1.out;omega
    case rel=>exact⟨(wrap64 (x5_1+t107)),(wrap64 (x6_1+1)),rS,rS,H',⟨by have:=HKy1.out;omega⟩,⟨(bX BKz1.out)⟩,⟨(hX HB.out)⟩⟩
   rw[if_pos rfl] at H
   replace H:=bE H;obtain⟨t105,A8,H⟩:=H
   replace H:=bE H;obtain⟨t106,A9,H⟩:=H
   have H':=aM H
   clear H
   have hczx1:=cZ2 BKz1.out
   obtain⟨adx1,ex1,px1,qx1,hxx1⟩:=at_ic HR0_0 HB x6_1
   cases ex1
   go_wp2_with (first | (refine gD 182 20 Tryz.func182 (XE.calls _ _ _ A6.out) ?_;intro nd;have px2:0≤(x6_1:Int):=odA;have qx2:x6_1<(l0_0.length:Int):=odA;obtain⟨adx2,ex2,hxx2⟩:=Kd.at_int HR0_0.out x6_1 px2 qx2;obtain rfl:adx1=adx2:=(by injection ex2);replace hxx2:=bc HB.out hxx2;replace px2:=eq_true px2;replace qx2:=eq_true qx2) | (go_at_call 204;(with_reducible refine(XaJ.calls _ _ _ A8.out).mono ?_);rintro e w' ⟨rfl,⟨nd,rfl⟩⟩) | (refine gD 195 31 Tryz.func195 (Xag.calls _ _ _ A9.out) ?_;intro nd))
   go_roundg k1
   case measure=>have:=HKy1.out;omega
   case rel=>exact⟨(wrap64 (x5_1+t106)),(wrap64 (x6_1+1)),rS,rS,H',⟨by have:=HKy1.out;omega⟩,⟨(bX BKz1.out)⟩,⟨(hX HB.out)⟩⟩
def XaC.f (k:Nat) (l0_0:List (S51)) (l0_1:List (S58)) (l0_2:List (S108)) (a0_3:Int) (l0_4:List (S80)) (l0_5:List Int) (l0_6:List Int) (a0_7:Int) (a1_0:Int) (a1_1:Int) (a1_2:Int) (a1_3:Int) (a1_4:Int) (a1_5:Int) (a1_6:Int) (a1_7:Int) (l1_8:List Int):Option (Bool):=(Xb.f a1_0 0 (wrap64 ((l0_2.length:Int) - 1))).bind fun t103=>(if t103=true then ((XS.f k a1_1 a1_2 a1_3).bind fun t104=>(if t104=true then ((Xb.f a1_4 0 a0_3).bind fun t105=>(if t105=true then (if a1_5=(-1) then (if a1_6=(-1) then (some true) else ((Xb.f a1_6 a1_4 a0_3).bind fun t106=>(some t106))) else ((Xb.f a1_5 a1_4 a0_3).bind fun t107=>(if t107=true then (if a1_6=(-1) then (some true) else ((Xb.f a1_6 a1_4 a0_3).bind fun t108=>(some t108))) else (some false)))) else (some false))) else (some false))) else (some false))
theorem XaC.calls (k:Nat) (A0_0:Option Addr) (c0_0:Nat) (l0_0:List (S51)) (A0_1:Option Addr) (c0_1:Nat) (l0_1:List (S58)) (A0_2:Option Addr) (c0_2:Nat) (l0_2:List (S108)) (a0_3:Int) (A0_4:Option Addr) (c0_4:Nat) (l0_4:List (S80)) (A0_5:Option Addr) (c0_5:Nat) (l0_5:List Int) (A0_6:Option Addr) (c0_6:Nat) (l0_6:List Int) (a0_7:Int) (a1_0:Int) (a1_1:Int) (a1_2:Int) (a1_3:Int) (a1_4:Int) (a1_5:Int) (a1_6:Int) (a1_7:Int) (A1_8:Option Addr) (c1_8:Nat) (l1_8:List Int) (r:Bool) (w:World) (h0_0:Rw k51 w A0_0 c0_0 l0_0) (h0_1:Rw k58 w A0_1 c0_1 l0_1) (h0_2:Rw k108 w A0_2 c0_2 l0_2) (h0_4:Rw k80 w A0_4 c0_4 l0_4) (h0_5:Rw (Kd.int .i64) w A0_5 c0_5 l0_5) (h0_6:Rw (Kd.int .i64) w A0_6 c0_6 l0_6) (h1_8:Rw (Kd.int .i64) w A1_8 c1_8 l1_8) (H:XaC.f k l0_0 l0_1 l0_2 a0_3 l0_4 l0_5 l0_6 a0_7 a1_0 a1_1 a1_2 a1_3 a1_4 a1_5 a1_6 a1_7 l1_8=some r) :
  Calls Tryz.prog 194 #[.agg #[.slice A0_0 l0_0.length c0_0,.slice A0_1 l0_1.length c0_1,.slice A0_2 l0_2.length c0_2,.int .i64 a0_3,.slice A0_4 l0_4.length c0_4,.slice A0_5 l0_5.length c0_5,.slice A0_6 l0_6.length c0_6,.int .i64 a0_7],.agg #[.int .i64 a1_0,.int .i64 a1_1,.int .i64 a1_2,.int .i64 a1_3,.int .i64 a1_4,.int .i64 a1_5,.int .i64 a1_6,.int .i64 a1_7,.slice A1_8 l1_8.length c1_8]] w fun e w'=>e = .returned (.bool r)∧Below w.heap.size w w':=by
 have hu37:=Tryz.underlying37
 have hu80:=Tryz.underlying80
 have hu78:=Tryz.underlying78
 obtain⟨HR0_0,HC0_0⟩:=h0_0
 obtain⟨HR0_1,HC0_1⟩:=h0_1
 obtain⟨HR0_2,HC0_2⟩:=h0_2
 obtain⟨HR0_4,HC0_4⟩:=h0_4
 obtain⟨HR0_5,HC0_5⟩:=h0_5
 obtain⟨HR0_6,HC0_6⟩:=h0_6
 obtain⟨HR1_8,HC1_8⟩:=h1_8
 have HB:=aM (Below.refl w.heap.size w)
 unfold XaC.f at H
 replace H:=bE H;obtain⟨t103,A3,H⟩:=H
 go_enter Tryz.func194,Tryz.ntmps194
 go_wp2_with (first | ((with_reducible refine gate_dst (N:=2) rfl ?_);refine boxE 2 #[.slice A0_0 l0_0.length c0_0,.slice A0_1 l0_1.length c0_1,.slice A0_2 l0_2.length c0_2,.int .i64 a0_3,.slice A0_4 l0_4.length c0_4,.slice A0_5 l0_5.length c0_5,.slice A0_6 l0_6.length c0_6,.int .i64 a0_7] 37 ?_;intro gbz1 hg wz1 hbox hb;have BKz1:=aM (hbox);have GWz1:=aG hg HB;replace HB:=aS HB hb;clear hb hbox hg) | ((with_reducible refine gate_dst (N:=3) rfl ?_);refine boxE 3 #[.int .i64 a1_0,.int .i64 a1_1,.int .i64 a1_2,.int .i64 a1_3,.int .i64 a1_4,.int .i64 a1_5,.int .i64 a1_6,.int .i64 a1_7,.slice A1_8 l1_8.length c1_8] 80 ?_;intro gbz2 hg wz2 hbox hb;have BKz2:=aM (hbox);have GWz2:=aG hg HB;have NBz1:=aL hg BKz1;have NBz2:=aR hg BKz1;replace BKz1:=aB BKz1 hb;replace HB:=aS HB hb;clear hb hbox hg;have hnbz1:=nB NBz2 NBz1;have hczz1:=cZ9 BKz2.out;have hczz10:=cZ8 BKz1.out;refine Stop.out ?_))
 refine⟨?_⟩
 cases t103
 case false =>
  rw[if_neg nft] at H
  obtain rfl:=sI H
  go_wp2_with ((with_reducible refine gate_callee (f:=95) rfl ?_);refine gD 95 11 Tryz.func95 (Xb.calls _ _ _ _ _ A3.out) ?_;intro nd)
  go_ret
  exact⟨rE,(hX HB.out)⟩
 rw[if_pos rfl] at H
 replace H:=bE H;obtain⟨t104,A5,H⟩:=H
 go_wp2_with ((with_reducible refine gate_callee (f:=95) rfl ?_);refine gD 95 11 Tryz.func95 (Xb.calls _ _ _ _ _ A3.out) ?_;intro nd;refine Stop.out ?_)
 refine⟨?_⟩
 cases t104
 case false =>
  rw[if_neg nft] at H
  obtain rfl:=sI H
  go_wp2_with (go_at_call 173;(with_reducible refine(XS.calls _ _ _ _ _ _ A5.out).mono ?_);rintro e wz3 ⟨rfl,hb⟩;replace BKz1:=aB BKz1 hb;replace BKz2:=aB BKz2 hb;replace HB:=aS HB hb;clear hb)
  go_ret
  exact⟨rE,(hX HB.out)⟩
 rw[if_pos rfl] at H
 replace H:=bE H;obtain⟨t105,A7,H⟩:=H
 go_wp2_with (go_at_call 173;(with_reducible refine(XS.calls _ _ _ _ _ _ A5.out).mono ?_);rintro e wz3 ⟨rfl,hb⟩;replace BKz1:=aB BKz1 hb;replace BKz2:=aB BKz2 hb;replace HB:=aS HB hb;clear hb;have hczz18:=cZ9 BKz2.out;have hczz27:=cZ8 BKz1.out;refine Stop.out ?_)
 refine⟨?_⟩
 cases t105
 case false =>
  rw[if_neg nft] at H
  obtain rfl:=sI H
  go_wp2_with (go_at_call 95;(with_reducible refine(Xb.calls _ _ _ _ _ A7.out).mono ?_);rintro e w' ⟨rfl,⟨nd,rfl⟩⟩)
  go_ret
  exact⟨rE,(hX HB.out)⟩
 rw[if_pos rfl] at H
 go_wp2_with (go_at_call 95;(with_reducible refine(Xb.calls _ _ _ _ _ A7.out).mono ?_);rintro e w' ⟨rfl,⟨nd,rfl⟩⟩;refine Stop.out ?_)
 refine⟨?_⟩
 revert H;refine eP ?_ ?_<;>intro c9b0 c9b1 H
 ·revert H;refine eP ?_ ?_<;>intro c10b0 c10b1 H
  ·obtain rfl:=sI H
   exact fS
  replace H:=bE H;obtain⟨t106,A19,H⟩:=H
  obtain rfl:=sI H
  go_wp2_with (go_at_call 95;(with_reducible refine(Xb.calls _ _ _ _ _ A19.out).mono ?_);rintro e w' ⟨rfl,⟨nd,rfl⟩⟩)
  go_ret
  exact⟨rE,(hX HB.out)⟩
 replace H:=bE H;obtain⟨t107,A28,H⟩:=H
 cases t107
 case false =>
  rw[if_neg nft] at H
  obtain rfl:=sI H
  go_wp2_with (go_at_call 95;(with_reducible refine(Xb.calls _ _ _ _ _ A28.out).mono ?_);rintro e w' ⟨rfl,⟨nd,rfl⟩⟩)
  go_ret
  exact⟨rE,(hX HB.out)⟩
 rw[if_pos rfl] at H
 go_wp2_with (go_at_call 95;(with_reducible refine(Xb.calls _ _ _ _ _ A28.out).mono ?_);rintro e w' ⟨rfl,⟨nd,rfl⟩⟩;refine Stop.out ?_)
 refine⟨?_⟩
 revert H;refine eP ?_ ?_<;>intro c30b0 c30b1 H
 ·obtain rfl:=sI H
  exact fS
 replace H:=bE H;obtain⟨t108,A39,H⟩:=H
 obtain rfl:=sI H
 go_wp2_with (go_at_call 95;(with_reducible refine(Xb.calls _ _ _ _ _ A39.out).mono ?_);rintro e w' ⟨rfl,⟨nd,rfl⟩⟩)
 go_ret
 exact⟨rE,(hX HB.out)⟩
end Go.Proofs.YthejoblnfpaojaaGreat.P
