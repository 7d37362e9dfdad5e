/- A part of the proof of the law FnExactTold: texts of this seat, merged (words, printed functions of the program, plain lemmas). Conditions: none of its own. -/
import Derived.Test.YteamagejhbkhnaaPkFnExactTold9
import Derived.Test.YteamagejhbkhnaaPkFnExactTold10
import Derived.Test.YteamagejhbkhnaaPkFnExactTold11
set_option linter.unusedSimpArgs false
set_option linter.unusedVariables false
set_option maxHeartbeats 8000000
set_option maxRecDepth 100000
namespace Go.Proofs.Yteamagejhbkhnaa.P
open Go.Proofs.YteamagejhbkhnaaZ Go.RowKit Go.Proofs.YteamagejhbkhnaaW.PrintWords Go.Proofs.YteamagejhbkhnaaW.PrintLast Go.Proofs.YteamagejhbkhnaaW.PrintMore
attribute [local go_sem] max2_int min2_int max_two min_two max_three min_three max_four min_four   -- for this text's walks alone
def Xaj.f (k:Nat) (a0_0:Int) (a0_1:Int) (a0_2:Int) (a0_3:Int) (a0_4:Int) (a0_5:Int) (a0_6:Int) (a0_7:Int) (l0_8:List Int):Option (Int × Int × Int × Int × Int × Int × Int × Int × List Int):=(X8.f a0_1 a0_2 a0_3).bind fun bt104=>((XZ.f k a0_7 l0_8).bind fun bt107=>(some (a0_0,bt104.1,bt104.2.1,bt104.2.2,a0_4,a0_5,a0_6,bt107.1,bt107.2)))
theorem Xaj.calls (k:Nat) (a0_0:Int) (a0_1:Int) (a0_2:Int) (a0_3:Int) (a0_4:Int) (a0_5:Int) (a0_6:Int) (a0_7:Int) (A0_8:Option Addr) (c0_8:Nat) (l0_8:List Int) (r1:Int) (r2:Int) (r3:Int) (r4:Int) (r5:Int) (r6:Int) (r7:Int) (r8:Int) (r9:List Int) (w:World) (hr0_8:Kd.C (Kd.int .i64) w A0_8 l0_8.length l0_8) (hc0_8:l0_8.length≤c0_8) (h:Xaj.f k a0_0 a0_1 a0_2 a0_3 a0_4 a0_5 a0_6 a0_7 l0_8=some (r1,r2,r3,r4,r5,r6,r7,r8,r9)) :
  Calls Try.prog 56 #[.agg #[.int .i64 a0_0,.int .i64 a0_1,.int .i64 a0_2,.int .i64 a0_3,.int .i64 a0_4,.int .i64 a0_5,.int .i64 a0_6,.int .i64 a0_7,.slice A0_8 l0_8.length c0_8]] w fun e w'=>∃ v8_:Value,e = .returned (.agg #[.int .i64 r1,.int .i64 r2,.int .i64 r3,.int .i64 r4,.int .i64 r5,.int .i64 r6,.int .i64 r7,.int .i64 r8,v8_])∧Kd.R (Kd.int .i64) 3 w' w.heap.size (fun _=>True) v8_ r9∧Below w.heap.size w w':=by
 have hu53:=Try.underlying53
 have hu59:=Try.underlying59
 have hu49:=Try.underlying49
 have hu56:=Try.underlying56
 have hu51:=Try.underlying51
 have hu57:=Try.underlying57
 have HR0_8:=Aside0.mk hr0_8
 have HC0_8:=Aside0.mk hc0_8
 clear hr0_8 hc0_8
 have HB:=Aside0.mk (Below.refl w.heap.size w)
 have H:=h
 unfold Xaj.f at H
 clear h
 replace H:=bE H;obtain⟨⟨t104,t105,t106⟩,A2,H⟩:=H
 try dsimp only at H
 replace H:=bE H;obtain⟨⟨t107,t108⟩,A3,H⟩:=H
 try dsimp only at H
 simp only[Option.some.injEq,Prod.mk.injEq] at H
 obtain⟨rfl,rfl,rfl,rfl,rfl,rfl,rfl,rfl,rfl⟩:=H
 go_enter Try.func56,Try.ntmps56
 go_wp2_with (first | ((with_reducible refine gate_dst (N:=1) rfl ?_);refine boxE 1 #[.int .i64 a0_0,.int .i64 a0_1,.int .i64 a0_2,.int .i64 a0_3,.int .i64 a0_4,.int .i64 a0_5,.int .i64 a0_6,.int .i64 a0_7,.slice A0_8 l0_8.length c0_8] 53 ?_;intro gbz1 hg wz1 hbox hb;have BKz1:=Aside0.mk (hbox);have GWz1:=Aside0.mk (gX' hg (hX HB.out));have GEz1:=Aside0.mk (gX' hg (hX HB.out));replace HB:=Aside0.mk (below_step (hX HB.out) hb);clear hb hbox hg) | ((with_reducible refine gate_dst (N:=2) rfl ?_);refine boxE 2 #[.int .i64 0,.int .i64 0,.int .i64 0,.int .i64 0,.int .i64 0,.int .i64 0,.int .i64 0,.int .i64 0,.slice none 0 0] 59 ?_;intro gbz2 hg wz2 hbox hb;have BKz2:=Aside0.mk (hbox);have GWz2:=Aside0.mk (gX' hg (hX HB.out));have GEz2:=Aside0.mk (gX' hg (hX HB.out));have NBz1:=Aside0.mk (gL hg (bX BKz1.out));have NBz2:=Aside0.mk (gG hg (bX BKz1.out));replace BKz1:=Aside0.mk (blk_below (bX BKz1.out) hb);replace HB:=Aside0.mk (below_step (hX HB.out) hb);clear hb hbox hg) | ((with_reducible refine gate_dst (N:=3) rfl ?_);refine boxE 3 #[.int .i64 0,.int .i64 0,.int .i64 0,.int .i64 0,.int .i64 0,.int .i64 0,.int .i64 0,.int .i64 0,.slice none 0 0] 59 ?_;intro gbz3 hg wz3 hbox hb;have BKz3:=Aside0.mk (hbox);have GWz3:=Aside0.mk (gX' hg (hX HB.out));have GEz3:=Aside0.mk (gX' hg (hX HB.out));have NBz3:=Aside0.mk (gL hg (bX BKz1.out));have NBz4:=Aside0.mk (gG hg (bX BKz1.out));have NBz5:=Aside0.mk (gL hg (bX BKz2.out));have NBz6:=Aside0.mk (gG hg (bX BKz2.out));replace BKz1:=Aside0.mk (blk_below (bX BKz1.out) hb);replace BKz2:=Aside0.mk (blk_below (bX BKz2.out) hb);replace HB:=Aside0.mk (below_step (hX HB.out) hb);clear hb hbox hg;have hnbz1:=NBz1.out;have hncz1:=NBz2.out;have hnbz2:=NBz3.out;have hncz2:=NBz4.out;obtain⟨hczz1,hczz2,hczz3,hczz4,hczz5,hczz6,hczz7,hczz8,hczz9,hfzz1,hfzz2,hfzz3,hfzz4,hfzz5,hfzz6,hfzz7,hfzz8,hfzz9⟩:=cZ9 BKz1.out;have hnbz3:=NBz6.out;have hncz3:=NBz5.out;obtain⟨hczz10,hczz11,hczz12,hczz13,hczz14,hczz15,hczz16,hczz17,hczz18,hfzz10,hfzz11,hfzz12,hfzz13,hfzz14,hfzz15,hfzz16,hfzz17,hfzz18⟩:=cZ9 BKz3.out) | ((with_reducible refine gate_callee (f:=103) rfl ?_);refine goesM 103 9 Try.func103 #[.agg #[.int .i64 a0_1,.int .i64 a0_2,.int .i64 a0_3]] ?_;refine(X8.calls a0_1 a0_2 a0_3 t104 t105 t106 _ A2.out).mono ?_;rintro e wz4 ⟨rfl,hb⟩;refine⟨_,rfl,?_⟩;replace BKz1:=Aside0.mk (blk_below (bF BKz1.out) hb);replace BKz2:=Aside0.mk (blk_below (bF BKz2.out) hb);replace BKz3:=Aside0.mk (blk_below (g:=gbz3) (o:=.cells #[.int .i64 a0_0,.int .i64 0,.int .i64 0,.int .i64 0,.int .i64 0,.int .i64 0,.int .i64 0,.int .i64 0,.slice none 0 0] 59 (0,0)) (bP BKz3.out) hb);replace HB:=Aside0.mk (below_step (hX HB.out) hb);clear hb;obtain⟨hczz19,hczz20,hczz21,hczz22,hczz23,hczz24,hczz25,hczz26,hczz27,hfzz19,hfzz20,hfzz21,hfzz22,hfzz23,hfzz24,hfzz25,hfzz26,hfzz27⟩:=cZ9 BKz3.out;obtain⟨hczz28,hczz29,hczz30,hczz31,hczz32,hczz33,hczz34,hczz35,hczz36,hfzz28,hfzz29,hfzz30,hfzz31,hfzz32,hfzz33,hfzz34,hfzz35,hfzz36⟩:=cZ9 BKz1.out) | ((with_reducible refine gate_callee (f:=104) rfl ?_);refine goesM 104 22 Try.func104 #[.agg #[.int .i64 a0_7,.slice A0_8 l0_8.length c0_8]] ?_;refine(XZ.calls k a0_7 _ _ l0_8 t107 t108 _ (by exact Kd.C_below HR0_8.out (hX HB.out)) HC0_8.out A3.out).mono ?_;rintro e wz5 ⟨vz1,rfl,hoz1,hb⟩;refine⟨_,rfl,?_⟩;have HOz1:=Aside0.mk (Kd.R_lower hoz1 (below_size (hX HB.out)));replace BKz1:=Aside0.mk (blk_below (bF BKz1.out) hb);replace BKz2:=Aside0.mk (blk_below (bF BKz2.out) hb);replace BKz3:=Aside0.mk (blk_below (g:=gbz3) (o:=.cells #[.int .i64 a0_0,.int .i64 t104,.int .i64 t105,.int .i64 t106,.int .i64 a0_4,.int .i64 a0_5,.int .i64 a0_6,.int .i64 0,.slice none 0 0] 59 (0,0)) (bP BKz3.out) hb);replace HB:=Aside0.mk (below_step (hX HB.out) hb);clear hb hoz1;obtain⟨hczz37,hczz38,hczz39,hczz40,hczz41,hczz42,hczz43,hczz44,hczz45,hfzz37,hfzz38,hfzz39,hfzz40,hfzz41,hfzz42,hfzz43,hfzz44,hfzz45⟩:=cZ9 BKz3.out;obtain⟨Aoz1,coz1,eoz1⟩:=Kd.R_slice HOz1.out;subst eoz1;obtain⟨hczz46,hczz47,hczz48,hczz49,hczz50,hczz51,hczz52,hczz53,hczz54,hfzz46,hfzz47,hfzz48,hfzz49,hfzz50,hfzz51,hfzz52,hfzz53,hfzz54⟩:=cZ9 BKz2.out))
 refine bodyPost_ret (results_cell_row rfl _ _ gbz2 59 #[.int .i64 a0_0,.int .i64 t104,.int .i64 t105,.int .i64 t106,.int .i64 a0_4,.int .i64 a0_5,.int .i64 a0_6,.int .i64 t107,.slice Aoz1 t108.length coz1] (0,0) _ rfl (bP BKz2.out) Try.underlying59 rfl (by kernel_rfl)) rfl ?_
 exact⟨_,rE,(rT (h:=by exact Kd.R_mono (Kd.R_far (p:=⟨gbz2,8,none⟩) (Kd.R_far (p:=⟨gbz2,7,none⟩) (Kd.R_far (p:=⟨gbz2,6,none⟩) (Kd.R_far (p:=⟨gbz2,5,none⟩) (Kd.R_far (p:=⟨gbz2,4,none⟩) (Kd.R_far (p:=⟨gbz2,3,none⟩) (Kd.R_far (p:=⟨gbz2,2,none⟩) (Kd.R_far (p:=⟨gbz2,1,none⟩) (Kd.R_far (p:=⟨gbz2,0,none⟩) (Kd.R_far (p:=⟨gbz3,8,none⟩) (Kd.R_far (p:=⟨gbz3,7,none⟩) (Kd.R_types (Kd.R_types HOz1.out BKz3.out (by decide)) BKz2.out (by decide)) (fun _ hk=>hk.1.2) (.int .i64 t107)) (fun _ hk=>hk.1.2) (.slice Aoz1 t108.length coz1)) (fun _ hk=>hk.2) (.int .i64 a0_0)) (fun _ hk=>hk.2) (.int .i64 t104)) (fun _ hk=>hk.2) (.int .i64 t105)) (fun _ hk=>hk.2) (.int .i64 t106)) (fun _ hk=>hk.2) (.int .i64 a0_4)) (fun _ hk=>hk.2) (.int .i64 a0_5)) (fun _ hk=>hk.2) (.int .i64 a0_6)) (fun _ hk=>hk.2) (.int .i64 t107)) (fun _ hk=>hk.2) (.slice Aoz1 t108.length coz1)) (fun _ hk=>trivial))),(hX HB.out)⟩
def XG.l0:Nat→List (S59)→List (S59)→Int→Int→Option ((List (S59)))
 | 0,_,_,_,_=>none
 | k+1,x3,x8,x9,x10=>if x10<x9 then (if 0≤x10 then (if x10<(x8.length:Int) then ((X9.f ((rd_T59 x8 x10).f0) ((rd_T59 x8 x10).f1.f0) ((rd_T59 x8 x10).f1.f1) ((rd_T59 x8 x10).f1.f2) ((rd_T59 x8 x10).f2) ((rd_T59 x8 x10).f3) ((rd_T59 x8 x10).f4) ((rd_T59 x8 x10).f5.f0) ((rd_T59 x8 x10).f5.f1)).bind fun t107=>(if t107=true then ((X6.f ((rd_T59 x8 x10).f5.f0) ((rd_T59 x8 x10).f5.f1)).bind fun bt108=>(if x3.length<1599289640401 then (XG.l0 k (x3 ++ [(⟨(rd_T59 x8 x10).f0,(⟨(rd_T59 x8 x10).f1.f0,(rd_T59 x8 x10).f1.f1,(rd_T59 x8 x10).f1.f2⟩:S56),(rd_T59 x8 x10).f2,(rd_T59 x8 x10).f3,(rd_T59 x8 x10).f4,(⟨bt108.1,bt108.2⟩:S57)⟩:S59)]) x8 x9 (wrap64 (x10+1))) else (none))) else (XG.l0 k x3 x8 x9 (wrap64 (x10+1))))) else (none)) else (none)) else (some x3)
def XG.f (k:Nat) (l0_0:List (S170)) (l0_1:List (S175)) (l0_2:List (S146)) (a0_3:Int) (l0_4:List (S59)) (l0_5:List Int) (l0_6:List Int) (a0_7:Int):Option ((List (S59))):=XG.l0 k (([]:List (S59))) l0_4 (l0_4.length:Int) 0
theorem XG.calls (k:Nat) (A0_0:Option Addr) (c0_0:Nat) (l0_0:List (S170)) (A0_1:Option Addr) (c0_1:Nat) (l0_1:List (S175)) (A0_2:Option Addr) (c0_2:Nat) (l0_2:List (S146)) (a0_3:Int) (A0_4:Option Addr) (c0_4:Nat) (l0_4:List (S59)) (A0_5:Option Addr) (c0_5:Nat) (l0_5:List Int) (A0_6:Option Addr) (c0_6:Nat) (l0_6:List Int) (a0_7:Int) (r:List (S59)) (w:World) (hr0_0:Kd.C k170 w A0_0 l0_0.length l0_0) (hc0_0:l0_0.length≤c0_0) (hr0_1:Kd.C k175 w A0_1 l0_1.length l0_1) (hc0_1:l0_1.length≤c0_1) (hr0_2:Kd.C k146 w A0_2 l0_2.length l0_2) (hc0_2:l0_2.length≤c0_2) (hr0_4:Kd.C k59 w A0_4 l0_4.length l0_4) (hc0_4:l0_4.length≤c0_4) (hr0_5:Kd.C (Kd.int .i64) w A0_5 l0_5.length l0_5) (hc0_5:l0_5.length≤c0_5) (hr0_6:Kd.C (Kd.int .i64) w A0_6 l0_6.length l0_6) (hc0_6:l0_6.length≤c0_6) (h:XG.f k l0_0 l0_1 l0_2 a0_3 l0_4 l0_5 l0_6 a0_7=some r) :
  Calls Try.prog 69 #[.agg #[.slice A0_0 l0_0.length c0_0,.slice A0_1 l0_1.length c0_1,.slice A0_2 l0_2.length c0_2,.int .i64 a0_3,.slice A0_4 l0_4.length c0_4,.slice A0_5 l0_5.length c0_5,.slice A0_6 l0_6.length c0_6,.int .i64 a0_7]] w fun e w'=>∃ v0_:Value,e = .returned (v0_)∧Kd.S k59 59 w' w.heap.size (fun _=>True) v0_ r∧Below w.heap.size w w':=by
 have hu87:=Try.underlying87
 have hu59:=Try.underlying59
 have hu57:=Try.underlying57
 have HR0_0:=Aside0.mk hr0_0
 have HC0_0:=Aside0.mk hc0_0
 clear hr0_0 hc0_0
 have HR0_1:=Aside0.mk hr0_1
 have HC0_1:=Aside0.mk hc0_1
 clear hr0_1 hc0_1
 have HR0_2:=Aside0.mk hr0_2
 have HC0_2:=Aside0.mk hc0_2
 clear hr0_2 hc0_2
 have HR0_4:=Aside0.mk hr0_4
 have HC0_4:=Aside0.mk hc0_4
 clear hr0_4 hc0_4
 have HR0_5:=Aside0.mk hr0_5
 have HC0_5:=Aside0.mk hc0_5
 clear hr0_5 hc0_5
 have HR0_6:=Aside0.mk hr0_6
 have HC0_6:=Aside0.mk hc0_6
 clear hr0_6 hc0_6
 have HB:=Aside0.mk (Below.refl w.heap.size w)
 have H:=h
 unfold XG.f at H
 clear h
 obtain⟨y102,hy102⟩:∃ y_:List (S59),y_=(([]:List (S59))):=⟨_,rfl⟩
 replace H:(XG.l0 k y102 l0_4 (l0_4.length:Int) 0)=some r:=yH H hy102
 have Ny102:=Aside0.mk hy102
 clear hy102
 have H':=Aside0.mk H
 clear H
 go_enter Try.func69,Try.ntmps69
 go_wp2_with (first | ((with_reducible refine gate_dst (N:=1) rfl ?_);refine boxE 1 #[.slice A0_0 l0_0.length c0_0,.slice A0_1 l0_1.length c0_1,.slice A0_2 l0_2.length c0_2,.int .i64 a0_3,.slice A0_4 l0_4.length c0_4,.slice A0_5 l0_5.length c0_5,.slice A0_6 l0_6.length c0_6,.int .i64 a0_7] 87 ?_;intro gbz1 hg wz1 hbox hb;have BKz1:=Aside0.mk (hbox);have GWz1:=Aside0.mk (gX' hg (hX HB.out));have GEz1:=Aside0.mk (gX' hg (hX HB.out));replace HB:=Aside0.mk (below_step (hX HB.out) hb);clear hb hbox hg) | ((with_reducible refine gate_dst (N:=6) rfl ?_);refine Kd.S_lit k59 _ 59 ?hg (N:=6) ?hd (xs:=([]:List (S59))) (inner:=[]) (ok:=fun _=>True) (okp:=fun _=>True) ?hr ?hp (fun _ hk=>hk) trivial (Below.refl _ _) (Nat.le_refl _) (by simp) ?_;(case hd=>rfl);(case hg=>rfl);(case hr=>first | (go_simp;done) | (go_simp;rfl));(case hp=>exact(Reps.none _ _));intro vz1 wz2 hoz1 hb hg_ hnew_;clear hg_ hnew_;(first | rw[← Ny102.out] at hoz1 | (simp only[Int.reduceToNat] at hoz1;rw[← Ny102.out] at hoz1));have HOz1:=Aside0.mk (Kd.S_lower hoz1 (below_size (hX HB.out)));replace BKz1:=Aside0.mk (blk_below (bX BKz1.out) hb);replace HB:=Aside0.mk (below_step (hX HB.out) hb);clear hb hoz1;obtain⟨hczz1,hczz2,hczz3,hczz4,hczz5,hczz6,hczz7,hczz8,hfzz1,hfzz2,hfzz3,hfzz4,hfzz5,hfzz6,hfzz7,hfzz8⟩:=cZ8 BKz1.out))
 go_loopg [3,10] k (fun kq v3 v10 w'=>∃ (x3_1:List (S59)) (x10_1:Int),v10 = .int .i64 x10_1∧Aside0 (XG.l0 kq x3_1 l0_4 (l0_4.length:Int) x10_1=some r)∧Aside0 (kq≤k)∧Aside0 (Kd.S k59 59 w' w.heap.size (fun _=>True) v3 x3_1)∧Aside0 (w'.heap[gbz1]? = some (.cells #[(.slice A0_0 l0_0.length c0_0),(.slice A0_1 l0_1.length c0_1),(.slice A0_2 l0_2.length c0_2),.int .i64 a0_3,(.slice A0_4 l0_4.length c0_4),(.slice A0_5 l0_5.length c0_5),(.slice A0_6 l0_6.length c0_6),.int .i64 a0_7] 87 (0,0)))∧Aside0 (Below w.heap.size w w'))
 case atStart=>exact⟨(y102),(0),rS,H',⟨Nat.le_refl _⟩,⟨(sX HOz1.out)⟩,⟨(bX BKz1.out)⟩,⟨(hX HB.out)⟩⟩
 case round =>
  clear H'
  try clear p2
  try clear hczz1
  try clear hczz2
  try clear hczz3
  try clear hczz4
  try clear hczz5
  try clear hczz6
  try clear hczz7
  try clear hczz8
  try clear hfzz1
  try clear hfzz2
  try clear hfzz3
  try clear hfzz4
  try clear hfzz5
  try clear hfzz6
  try clear hfzz7
  try clear hfzz8
  obtain⟨x3_1,x10_1,rfl,HA,HKy1,HO_y1,BKz1,HB⟩:=hrel
  cases gk with
  | zero=>exact absurd HA.out (by simp[XG.l0])
  | succ k1 =>
   have H:=HA.out
   clear HA
   simp only[XG.l0] at H
   by_cases c6:x10_1<(l0_4.length:Int)
   ·rw[if_pos c6] at H
    have c6b0:=decide_eq_true c6
    clear c6
    replace H:=ifP H;obtain⟨c7,H⟩:=H
    have c7b0:=decide_eq_true c7
    clear c7
    replace H:=ifP H;obtain⟨c8,H⟩:=H
    have c8b0:=decide_eq_true c8
    clear c8
    replace H:=bE H;obtain⟨t107,A9,H⟩:=H
    have px1:0≤(x10_1:Int):=of_decide_eq_true (by first | (with_reducible assumption) | assumption)
    have qx1:x10_1<(l0_4.length:Int):=of_decide_eq_true (by first | (with_reducible assumption) | assumption)
    obtain⟨adx1,Ax1,cx1,ex1,hxx1,hxx2,hxx3,hxx4,hxx5,hxx6,hxx7,hxx8,hxx9,hlx1,hix1⟩:=at_T59 HR0_4.out x10_1 px1 qx1
    cases ex1
    replace hxx1:=(HB.out.cell (World.block_lt_of_cell? w _ hxx1)).trans hxx1
    replace hxx2:=(HB.out.cell (World.block_lt_of_cell? w _ hxx2)).trans hxx2
    replace hxx3:=(HB.out.cell (World.block_lt_of_cell? w _ hxx3)).trans hxx3
    replace hxx4:=(HB.out.cell (World.block_lt_of_cell? w _ hxx4)).trans hxx4
    replace hxx5:=(HB.out.cell (World.block_lt_of_cell? w _ hxx5)).trans hxx5
    replace hxx6:=(HB.out.cell (World.block_lt_of_cell? w _ hxx6)).trans hxx6
    replace hxx7:=(HB.out.cell (World.block_lt_of_cell? w _ hxx7)).trans hxx7
    replace hxx8:=(HB.out.cell (World.block_lt_of_cell? w _ hxx8)).trans hxx8
    replace hxx9:=(HB.out.cell (World.block_lt_of_cell? w _ hxx9)).trans hxx9
    have HRx1:=Aside0.mk hix1
    have HCx1:=Aside0.mk hlx1
    clear hix1 hlx1
    replace px1:=eq_true px1
    replace qx1:=eq_true qx1
    go_wp2_with (first | ((with_reducible refine gate_dst (N:=5) rfl ?_);refine boxE 5 #[.int .i64 0,.int .i64 0,.int .i64 0,.int .i64 0,.int .i64 0,.int .i64 0,.int .i64 0,.int .i64 0,.slice none 0 0] 59 ?_;intro gbx1 hg wx1 hbox hb;have BKx1:=Aside0.mk (hbox);have GWx1:=Aside0.mk (gX' hg (hX HB.out));have GEx1:=Aside0.mk (gX' hg (hX HB.out));have NBx1:=Aside0.mk (gL hg (bX BKz1.out));have NBx2:=Aside0.mk (gG hg (bX BKz1.out));replace HO_y1:=Aside0.mk (Kd.S_below (Kd.S_elderB (sX HO_y1.out) gbx1 (Nat.le_of_eq hg.symm)) hb);replace BKz1:=Aside0.mk (blk_below (bX BKz1.out) hb);replace HB:=Aside0.mk (below_step (hX HB.out) hb);clear hb hbox hg;have hnbx1:=NBx2.out;have hncx1:=NBx1.out;obtain⟨hczx1,hczx2,hczx3,hczx4,hczx5,hczx6,hczx7,hczx8,hczx9,hfzx1,hfzx2,hfzx3,hfzx4,hfzx5,hfzx6,hfzx7,hfzx8,hfzx9⟩:=cZ9 BKx1.out;refine Stop.out ?_))
    refine⟨?_⟩
    by_cases c10:t107=true
    ·subst c10
     rw[if_pos rfl] at H
     replace H:=bE H;obtain⟨⟨t108,t109⟩,A11,H⟩:=H
     try dsimp only at H
     replace H:=ifP H;obtain⟨c12,H⟩:=H
     have LMc12:=Aside0.mk c12
     clear c12
     obtain⟨y112,hy112⟩:∃ y_:List (S59),y_=(x3_1 ++ [(⟨(rd_T59 l0_4 x10_1).f0,(⟨(rd_T59 l0_4 x10_1).f1.f0,(rd_T59 l0_4 x10_1).f1.f1,(rd_T59 l0_4 x10_1).f1.f2⟩:S56),(rd_T59 l0_4 x10_1).f2,(rd_T59 l0_4 x10_1).f3,(rd_T59 l0_4 x10_1).f4,(⟨t108,t109⟩:S57)⟩:S59)]):=⟨_,rfl⟩
     replace H:(XG.l0 k1 y112 l0_4 (l0_4.length:Int) (wrap64 (x10_1+1)))=some r:=yH H hy112
     have Ny112:=Aside0.mk hy112
     clear hy112
     have H':=Aside0.mk H
     clear H
     go_wp2_with (first | ((with_reducible refine gate_callee (f:=114) rfl ?_);refine goesM 114 15 Try.func114 #[.agg #[.int .i64 ((rd_T59 l0_4 x10_1).f0),.int .i64 ((rd_T59 l0_4 x10_1).f1.f0),.int .i64 ((rd_T59 l0_4 x10_1).f1.f1),.int .i64 ((rd_T59 l0_4 x10_1).f1.f2),.int .i64 ((rd_T59 l0_4 x10_1).f2),.int .i64 ((rd_T59 l0_4 x10_1).f3),.int .i64 ((rd_T59 l0_4 x10_1).f4),.int .i64 ((rd_T59 l0_4 x10_1).f5.f0),.slice Ax1 ((rd_T59 l0_4 x10_1).f5.f1).length cx1]] ?_;refine(X9.calls ((rd_T59 l0_4 x10_1).f0) ((rd_T59 l0_4 x10_1).f1.f0) ((rd_T59 l0_4 x10_1).f1.f1) ((rd_T59 l0_4 x10_1).f1.f2) ((rd_T59 l0_4 x10_1).f2) ((rd_T59 l0_4 x10_1).f3) ((rd_T59 l0_4 x10_1).f4) ((rd_T59 l0_4 x10_1).f5.f0) _ _ ((rd_T59 l0_4 x10_1).f5.f1) true _ (by exact Kd.C_below HRx1.out (hX HB.out)) HCx1.out A9.out).mono ?_;rintro e wx2 ⟨rfl,hb⟩;refine⟨_,rfl,?_⟩;replace HO_y1:=Aside0.mk (Kd.S_below (by (with_reducible repeat (first | apply Kd.S_alloc | apply Kd.S_drewN | apply Kd.S_drew));exact(Kd.S_mono (Kd.S_far (p:=⟨gbx1,8,none⟩) (Kd.S_far (p:=⟨gbx1,7,none⟩) (Kd.S_far (p:=⟨gbx1,6,none⟩) (Kd.S_far (p:=⟨gbx1,5,none⟩) (Kd.S_far (p:=⟨gbx1,4,none⟩) (Kd.S_far (p:=⟨gbx1,3,none⟩) (Kd.S_far (p:=⟨gbx1,2,none⟩) (Kd.S_far (p:=⟨gbx1,1,none⟩) (Kd.S_far (p:=⟨gbx1,0,none⟩) (Kd.S_mono HO_y1.out (fun k_ hk=>(⟨hk,hk.2⟩:_∧k_ ≠ gbx1))) (fun _ hk=>hk.2) (.int .i64 ((rd_T59 l0_4 x10_1).f0))) (fun _ hk=>hk.2) (.int .i64 ((rd_T59 l0_4 x10_1).f1.f0))) (fun _ hk=>hk.2) (.int .i64 ((rd_T59 l0_4 x10_1).f1.f1))) (fun _ hk=>hk.2) (.int .i64 ((rd_T59 l0_4 x10_1).f1.f2))) (fun _ hk=>hk.2) (.int .i64 ((rd_T59 l0_4 x10_1).f2))) (fun _ hk=>hk.2) (.int .i64 ((rd_T59 l0_4 x10_1).f3))) (fun _ hk=>hk.2) (.int .i64 ((rd_T59 l0_4 x10_1).f4))) (fun _ hk=>hk.2) (.int .i64 ((rd_T59 l0_4 x10_1).f5.f0))) (fun _ hk=>hk.2) (.slice Ax1 ((rd_T59 l0_4 x10_1).f5.f1).length cx1)) (fun _ h_=>h_.1))) hb);replace BKz1:=Aside0.mk (blk_below (bF BKz1.out) hb);replace BKx1:=Aside0.mk (blk_below (g:=gbx1) (o:=.cells #[.int .i64 ((rd_T59 l0_4 x10_1).f0),.int .i64 ((rd_T59 l0_4 x10_1).f1.f0),.int .i64 ((rd_T59 l0_4 x10_1).f1.f1),.int .i64 ((rd_T59 l0_4 x10_1).f1.f2),.int .i64 ((rd_T59 l0_4 x10_1).f2),.int .i64 ((rd_T59 l0_4 x10_1).f3),.int .i64 ((rd_T59 l0_4 x10_1).f4),.int .i64 ((rd_T59 l0_4 x10_1).f5.f0),.slice Ax1 ((rd_T59 l0_4 x10_1).f5.f1).length cx1] 59 (0,0)) (bP BKx1.out) hb);replace HB:=Aside0.mk (below_step (hX HB.out) hb);clear hb;obtain⟨hczx10,hczx11,hczx12,hczx13,hczx14,hczx15,hczx16,hczx17,hczx18,hfzx10,hfzx11,hfzx12,hfzx13,hfzx14,hfzx15,hfzx16,hfzx17,hfzx18⟩:=cZ9 BKx1.out) | ((with_reducible refine gate_callee (f:=119) rfl ?_);refine goesM 119 18 Try.func119 #[.agg #[.int .i64 ((rd_T59 l0_4 x10_1).f5.f0),.slice Ax1 ((rd_T59 l0_4 x10_1).f5.f1).length cx1]] ?_;refine(X6.calls ((rd_T59 l0_4 x10_1).f5.f0) _ _ ((rd_T59 l0_4 x10_1).f5.f1) t108 t109 _ (cC HRx1.out HB.out) HCx1.out A11.out).mono ?_;rintro e wx3 ⟨vx1,rfl,hox1,hb⟩;refine⟨_,rfl,?_⟩;have HOx1:=Aside0.mk (Kd.R_lower hox1 (below_size (hX HB.out)));replace HO_y1:=Aside0.mk (Kd.S_elder' (sX HO_y1.out) (Kd.R_base hox1) hb);replace BKz1:=Aside0.mk (blk_below (bX BKz1.out) hb);replace BKx1:=Aside0.mk (blk_below (bX BKx1.out) hb);replace HB:=Aside0.mk (below_step (hX HB.out) hb);clear hb hox1;obtain⟨hczx19,hczx20,hczx21,hczx22,hczx23,hczx24,hczx25,hczx26,hczx27,hfzx19,hfzx20,hfzx21,hfzx22,hfzx23,hfzx24,hfzx25,hfzx26,hfzx27⟩:=cZ9 BKx1.out;obtain⟨Aox1,cox1,eox1⟩:=Kd.R_slice HOx1.out;subst eox1) | ((with_reducible refine gate_store (t:=57) (p:=19) rfl ?_);refine store_event (t:=57) (p:=19) (v:=?vo_wx4) (w1:=((wx3.setCell ⟨gbx1,7,none⟩ (.int .i64 t108)).setCell ⟨gbx1,8,none⟩ (.slice Aox1 t109.length cox1))) ?hg ?ho ?hn ?hr ?_;(case ho=>rfl);(case hg=>rfl);(case hn=>rfl);(case hr=>first | (go_simp;done) | (go_simp;rfl));intro wx4 hw;replace HO_y1:Aside0 (Kd.S k59 59 wx4 w.heap.size (fun k_=>some k_ ≠ (.slice Aox1 t109.length cox1:Value).ownBlock∧k_ ≠ gbx1) u3 x3_1):=⟨(by rw[hw];exact(by (with_reducible repeat (first | apply Kd.S_alloc | apply Kd.S_drewN | apply Kd.S_drew));exact Kd.S_mono (Kd.S_far (p:=⟨gbx1,8,none⟩) (Kd.S_far (p:=⟨gbx1,7,none⟩) (Kd.S_mono HO_y1.out (fun k_ hk=>(⟨hk,hk.1.2⟩:_∧k_ ≠ gbx1))) (fun _ hk=>hk.2) (.int .i64 t108)) (fun _ hk=>hk.2) (.slice Aox1 t109.length cox1)) (fun _ hk=>⟨hk.1.2,hk.1.1.2⟩)))⟩;replace HOx1:Aside0 (Kd.R (Kd.int .i64) 3 wx4 w.heap.size (fun _=>True) (.slice Aox1 t109.length cox1) t109):=⟨(by rw[hw];exact(rT (h:=by exact Kd.R_mono (Kd.R_far (p:=⟨gbx1,8,none⟩) (Kd.R_far (p:=⟨gbx1,7,none⟩) (Kd.R_types HOx1.out BKx1.out (by decide)) (fun _ hk=>hk.2) (.int .i64 t108)) (fun _ hk=>hk.2) (.slice Aox1 t109.length cox1)) (fun _ hk=>trivial))))⟩;replace BKz1:Aside0 (wx4.heap[gbz1]? = some (.cells #[.slice A0_0 l0_0.length c0_0,.slice A0_1 l0_1.length c0_1,.slice A0_2 l0_2.length c0_2,.int .i64 a0_3,.slice (some adx1) l0_4.length c0_4,.slice A0_5 l0_5.length c0_5,.slice A0_6 l0_6.length c0_6,.int .i64 a0_7] 87 (0,0))):=⟨(by rw[hw];exact(bF BKz1.out))⟩;replace BKx1:Aside0 (wx4.heap[gbx1]? = some (.cells #[.int .i64 ((rd_T59 l0_4 x10_1).f0),.int .i64 ((rd_T59 l0_4 x10_1).f1.f0),.int .i64 ((rd_T59 l0_4 x10_1).f1.f1),.int .i64 ((rd_T59 l0_4 x10_1).f1.f2),.int .i64 ((rd_T59 l0_4 x10_1).f2),.int .i64 ((rd_T59 l0_4 x10_1).f3),.int .i64 ((rd_T59 l0_4 x10_1).f4),.int .i64 t108,.slice Aox1 t109.length cox1] 59 (0,0))):=⟨(by rw[hw];exact(bP BKx1.out))⟩;replace HB:Aside0 (Below w.heap.size w wx4):=⟨(by rw[hw];exact(hX HB.out))⟩;clear hw;obtain⟨hczx28,hczx29,hczx30,hczx31,hczx32,hczx33,hczx34,hczx35,hczx36,hfzx28,hfzx29,hfzx30,hfzx31,hfzx32,hfzx33,hfzx34,hfzx35,hfzx36⟩:=cZ9 BKx1.out) | ((with_reducible refine gate_builtin (b:=.append) (xs:=#[.tmp 20,.tmp 22]) rfl ?_);at_builtin;refine Kd.S_append k59 (w0:=w) w.heap.size rfl (.tmp 20) (.tmp 22) 68 59 (.agg #[(.int .i64 0),(.int .i64 0),(.int .i64 0),(.int .i64 0),(.int .i64 0),(.int .i64 0),(.int .i64 0),(.int .i64 0),(.slice none 0 0)]) 88 rfl Try.underlying68 info59 rfl (by decide) (by omega) u3 x3_1 (⟨(rd_T59 l0_4 x10_1).f0,(⟨(rd_T59 l0_4 x10_1).f1.f0,(rd_T59 l0_4 x10_1).f1.f1,(rd_T59 l0_4 x10_1).f1.f2⟩:S56),(rd_T59 l0_4 x10_1).f2,(rd_T59 l0_4 x10_1).f3,(rd_T59 l0_4 x10_1).f4,(⟨t108,t109⟩:S57)⟩:S59) [.int .i64 ((rd_T59 l0_4 x10_1).f0),.int .i64 ((rd_T59 l0_4 x10_1).f1.f0),.int .i64 ((rd_T59 l0_4 x10_1).f1.f1),.int .i64 ((rd_T59 l0_4 x10_1).f1.f2),.int .i64 ((rd_T59 l0_4 x10_1).f2),.int .i64 ((rd_T59 l0_4 x10_1).f3),.int .i64 ((rd_T59 l0_4 x10_1).f4),.int .i64 t108,.slice Aox1 t109.length cox1] (fun k_=>k_ ≠ gbx1) (fun k_=>some k_=(.slice Aox1 t109.length cox1:Value).ownBlock) rfl rfl ?aP (fun k_ hk_=>((Kd.R_mono (ok':=fun k_=>((fun k_=>k_ ≠ gbx1)) k_∧some k_ ≠ (u3:Value).ownBlock) (Kd.R_types (Kd.R_apart' (HOx1.out) (Kd.S_typed HO_y1.out) (by decide)) BKx1.out (by decide)) (fun k_ hk=>⟨hk.2,hk.1.2⟩))).1 k_ hk_.symm) ?aF ?aO ?aB ?aS ?aL ?_;(case aP=>exact k59_mkM _ _ _ (⟨(rd_T59 l0_4 x10_1).f0,(⟨(rd_T59 l0_4 x10_1).f1.f0,(rd_T59 l0_4 x10_1).f1.f1,(rd_T59 l0_4 x10_1).f1.f2⟩:S56),(rd_T59 l0_4 x10_1).f2,(rd_T59 l0_4 x10_1).f3,(rd_T59 l0_4 x10_1).f4,(⟨t108,t109⟩:S57)⟩:S59) (Kd.R_mono (Kd.R_tight rfl (Kd.R_mono (ok':=fun k_=>((fun k_=>k_ ≠ gbx1)) k_∧some k_ ≠ (u3:Value).ownBlock) (Kd.R_types (Kd.R_apart' (HOx1.out) (Kd.S_typed HO_y1.out) (by decide)) BKx1.out (by decide)) (fun k_ hk=>⟨hk.2,hk.1.2⟩))) (fun _ h_=>h_)));(case aB=>exact(hX HB.out));(case aF=>exact(fun k_ hk=>Kd.freshB (g:=gbx1) (o:=.cells #[.int .i64 ((rd_T59 l0_4 x10_1).f0),.int .i64 ((rd_T59 l0_4 x10_1).f1.f0),.int .i64 ((rd_T59 l0_4 x10_1).f1.f1),.int .i64 ((rd_T59 l0_4 x10_1).f1.f2),.int .i64 ((rd_T59 l0_4 x10_1).f2),.int .i64 ((rd_T59 l0_4 x10_1).f3),.int .i64 ((rd_T59 l0_4 x10_1).f4),.int .i64 t108,.slice Aox1 t109.length cox1] 59 (0,0)) (bX BKx1.out) k_ hk));(case aO=>exact(by (with_reducible repeat (first | apply Kd.S_alloc | apply Kd.S_drewN | apply Kd.S_drew));exact Kd.S_mono HO_y1.out (fun k_ hk=>⟨hk.2,fun e_=>hk.1 e_⟩)));(case aS=>exact(below_size (hX HB.out)));(case aL=>have:=LMc12.out;omega);intro vx2 wx5 ho hb hg hat;rw[← Ny112.out] at ho;have HOx2:=Aside0.mk (ho);replace BKz1:=Aside0.mk (blk_grown (g:=gbz1) (o:=.cells #[.slice A0_0 l0_0.length c0_0,.slice A0_1 l0_1.length c0_1,.slice A0_2 l0_2.length c0_2,.int .i64 a0_3,.slice (some adx1) l0_4.length c0_4,.slice A0_5 l0_5.length c0_5,.slice A0_6 l0_6.length c0_6,.int .i64 a0_7] 87 (0,0)) (bX BKz1.out) hg (Kd.S_ne HO_y1.out BKz1.out (by decide)));replace BKx1:=Aside0.mk (blk_grown (g:=gbx1) (o:=.cells #[.int .i64 ((rd_T59 l0_4 x10_1).f0),.int .i64 ((rd_T59 l0_4 x10_1).f1.f0),.int .i64 ((rd_T59 l0_4 x10_1).f1.f1),.int .i64 ((rd_T59 l0_4 x10_1).f1.f2),.int .i64 ((rd_T59 l0_4 x10_1).f2),.int .i64 ((rd_T59 l0_4 x10_1).f3),.int .i64 ((rd_T59 l0_4 x10_1).f4),.int .i64 t108,.slice Aox1 t109.length cox1] 59 (0,0)) (bX BKx1.out) hg (Kd.S_away HO_y1.out (fun _ hk=>hk.2)));replace HB:=Aside0.mk (hb);clear HO_y1 HOx1;clear ho hb hg hat))
     go_roundg k1
     case measure=>have:=HKy1.out;omega
     case rel=>exact⟨(y112),(wrap64 (x10_1+1)),rS,H',⟨by have:=HKy1.out;omega⟩,⟨by (with_reducible repeat (first | apply Kd.S_alloc | apply Kd.S_drewN | apply Kd.S_drew));exact Kd.S_mono HOx2.out (fun _ hk=>trivial)⟩,⟨(bX BKz1.out)⟩,⟨(hX HB.out)⟩⟩
    ·replace c10:=Bool.eq_false_iff.mpr c10
     subst c10
     rw[if_neg nft] at H
     have H':=Aside0.mk H
     clear H
     go_wp2_with (first | ((with_reducible refine gate_callee (f:=114) rfl ?_);refine goesM 114 15 Try.func114 #[.agg #[.int .i64 ((rd_T59 l0_4 x10_1).f0),.int .i64 ((rd_T59 l0_4 x10_1).f1.f0),.int .i64 ((rd_T59 l0_4 x10_1).f1.f1),.int .i64 ((rd_T59 l0_4 x10_1).f1.f2),.int .i64 ((rd_T59 l0_4 x10_1).f2),.int .i64 ((rd_T59 l0_4 x10_1).f3),.int .i64 ((rd_T59 l0_4 x10_1).f4),.int .i64 ((rd_T59 l0_4 x10_1).f5.f0),.slice Ax1 ((rd_T59 l0_4 x10_1).f5.f1).length cx1]] ?_;refine(X9.calls ((rd_T59 l0_4 x10_1).f0) ((rd_T59 l0_4 x10_1).f1.f0) ((rd_T59 l0_4 x10_1).f1.f1) ((rd_T59 l0_4 x10_1).f1.f2) ((rd_T59 l0_4 x10_1).f2) ((rd_T59 l0_4 x10_1).f3) ((rd_T59 l0_4 x10_1).f4) ((rd_T59 l0_4 x10_1).f5.f0) _ _ ((rd_T59 l0_4 x10_1).f5.f1) false _ (by exact Kd.C_below HRx1.out (hX HB.out)) HCx1.out A9.out).mono ?_;rintro e wx2 ⟨rfl,hb⟩;refine⟨_,rfl,?_⟩;replace HO_y1:=Aside0.mk (Kd.S_below (by (with_reducible repeat (first | apply Kd.S_alloc | apply Kd.S_drewN | apply Kd.S_drew));exact(Kd.S_mono (Kd.S_far (p:=⟨gbx1,8,none⟩) (Kd.S_far (p:=⟨gbx1,7,none⟩) (Kd.S_far (p:=⟨gbx1,6,none⟩) (Kd.S_far (p:=⟨gbx1,5,none⟩) (Kd.S_far (p:=⟨gbx1,4,none⟩) (Kd.S_far (p:=⟨gbx1,3,none⟩) (Kd.S_far (p:=⟨gbx1,2,none⟩) (Kd.S_far (p:=⟨gbx1,1,none⟩) (Kd.S_far (p:=⟨gbx1,0,none⟩) (Kd.S_mono HO_y1.out (fun k_ hk=>(⟨hk,hk.2⟩:_∧k_ ≠ gbx1))) (fun _ hk=>hk.2) (.int .i64 ((rd_T59 l0_4 x10_1).f0))) (fun _ hk=>hk.2) (.int .i64 ((rd_T59 l0_4 x10_1).f1.f0))) (fun _ hk=>hk.2) (.int .i64 ((rd_T59 l0_4 x10_1).f1.f1))) (fun _ hk=>hk.2) (.int .i64 ((rd_T59 l0_4 x10_1).f1.f2))) (fun _ hk=>hk.2) (.int .i64 ((rd_T59 l0_4 x10_1).f2))) (fun _ hk=>hk.2) (.int .i64 ((rd_T59 l0_4 x10_1).f3))) (fun _ hk=>hk.2) (.int .i64 ((rd_T59 l0_4 x10_1).f4))) (fun _ hk=>hk.2) (.int .i64 ((rd_T59 l0_4 x10_1).f5.f0))) (fun _ hk=>hk.2) (.slice Ax1 ((rd_T59 l0_4 x10_1).f5.f1).length cx1)) (fun _ h_=>h_.1))) hb);replace BKz1:=Aside0.mk (blk_below (bF BKz1.out) hb);replace BKx1:=Aside0.mk (blk_below (g:=gbx1) (o:=.cells #[.int .i64 ((rd_T59 l0_4 x10_1).f0),.int .i64 ((rd_T59 l0_4 x10_1).f1.f0),.int .i64 ((rd_T59 l0_4 x10_1).f1.f1),.int .i64 ((rd_T59 l0_4 x10_1).f1.f2),.int .i64 ((rd_T59 l0_4 x10_1).f2),.int .i64 ((rd_T59 l0_4 x10_1).f3),.int .i64 ((rd_T59 l0_4 x10_1).f4),.int .i64 ((rd_T59 l0_4 x10_1).f5.f0),.slice Ax1 ((rd_T59 l0_4 x10_1).f5.f1).length cx1] 59 (0,0)) (bP BKx1.out) hb);replace HB:=Aside0.mk (below_step (hX HB.out) hb);clear hb))
     go_roundg k1
     case measure=>have:=HKy1.out;omega
     case rel=>exact⟨(x3_1),(wrap64 (x10_1+1)),rS,H',⟨by have:=HKy1.out;omega⟩,⟨by (with_reducible repeat (first | apply Kd.S_alloc | apply Kd.S_drewN | apply Kd.S_drew));exact Kd.S_mono HO_y1.out (fun _ hk=>trivial)⟩,⟨(bX BKz1.out)⟩,⟨(hX HB.out)⟩⟩
   ·rw[if_neg c6] at H
    have c6b0:=decide_eq_false c6
    clear c6
    obtain rfl:=Option.some.inj H
    go_wp2
    go_ret
    exact⟨_,rE,(sX HO_y1.out),(hX HB.out)⟩
def X3.f (k:Nat) (a0_0:Int) (a0_1:Int) (l0_2:List (S200)) (a0_3:Int) (l0_4:List Int) (a1_0:Int) (a1_1:Int) (l1_2:List (S200)) (a1_3:Int) (l1_4:List Int):Option (Bool):=if a0_0=a1_0 then (if a0_1=a1_1 then ((Xc.f k l0_2 l1_2).bind fun t103=>(if t103=true then ((XR.f k a0_3 l0_4 a1_3 l1_4).bind fun t104=>(if t104=true then (some true) else (some false))) else (some false))) else (some false)) else (some false)
theorem X3.calls (k:Nat) (a0_0:Int) (a0_1:Int) (A0_2:Option Addr) (c0_2:Nat) (l0_2:List (S200)) (a0_3:Int) (A0_4:Option Addr) (c0_4:Nat) (l0_4:List Int) (a1_0:Int) (a1_1:Int) (A1_2:Option Addr) (c1_2:Nat) (l1_2:List (S200)) (a1_3:Int) (A1_4:Option Addr) (c1_4:Nat) (l1_4:List Int) (r:Bool) (w:World) (hr0_2:Kd.C k200 w A0_2 l0_2.length l0_2) (hc0_2:l0_2.length≤c0_2) (hr0_4:Kd.C (Kd.int .i64) w A0_4 l0_4.length l0_4) (hc0_4:l0_4.length≤c0_4) (hr1_2:Kd.C k200 w A1_2 l1_2.length l1_2) (hc1_2:l1_2.length≤c1_2) (hr1_4:Kd.C (Kd.int .i64) w A1_4 l1_4.length l1_4) (hc1_4:l1_4.length≤c1_4) (h:X3.f k a0_0 a0_1 l0_2 a0_3 l0_4 a1_0 a1_1 l1_2 a1_3 l1_4=some r) :
  Calls Try.prog 170 #[.agg #[.int .i64 a0_0,.int .i64 a0_1,.slice A0_2 l0_2.length c0_2,.int .i64 a0_3,.slice A0_4 l0_4.length c0_4],.agg #[.int .i64 a1_0,.int .i64 a1_1,.slice A1_2 l1_2.length c1_2,.int .i64 a1_3,.slice A1_4 l1_4.length c1_4]] w fun e w'=>e = .returned (.bool r)∧Below w.heap.size w w':=by
 have hu175:=Try.underlying175
 have hu57:=Try.underlying57
 have HR0_2:=Aside0.mk hr0_2
 have HC0_2:=Aside0.mk hc0_2
 clear hr0_2 hc0_2
 have HR0_4:=Aside0.mk hr0_4
 have HC0_4:=Aside0.mk hc0_4
 clear hr0_4 hc0_4
 have HR1_2:=Aside0.mk hr1_2
 have HC1_2:=Aside0.mk hc1_2
 clear hr1_2 hc1_2
 have HR1_4:=Aside0.mk hr1_4
 have HC1_4:=Aside0.mk hc1_4
 clear hr1_4 hc1_4
 have HB:=Aside0.mk (Below.refl w.heap.size w)
 have H:=h
 unfold X3.f at H
 clear h
 go_enter Try.func170,Try.ntmps170
 go_wp2_with (first | ((with_reducible refine gate_dst (N:=2) rfl ?_);refine boxE 2 #[.int .i64 a0_0,.int .i64 a0_1,.slice A0_2 l0_2.length c0_2,.int .i64 a0_3,.slice A0_4 l0_4.length c0_4] 175 ?_;intro gbz1 hg wz1 hbox hb;have BKz1:=Aside0.mk (hbox);have GWz1:=Aside0.mk (gX' hg (hX HB.out));have GEz1:=Aside0.mk (gX' hg (hX HB.out));replace HB:=Aside0.mk (below_step (hX HB.out) hb);clear hb hbox hg) | ((with_reducible refine gate_dst (N:=3) rfl ?_);refine boxE 3 #[.int .i64 a1_0,.int .i64 a1_1,.slice A1_2 l1_2.length c1_2,.int .i64 a1_3,.slice A1_4 l1_4.length c1_4] 175 ?_;intro gbz2 hg wz2 hbox hb;have BKz2:=Aside0.mk (hbox);have GWz2:=Aside0.mk (gX' hg (hX HB.out));have GEz2:=Aside0.mk (gX' hg (hX HB.out));have NBz1:=Aside0.mk (gL hg (bX BKz1.out));have NBz2:=Aside0.mk (gG hg (bX BKz1.out));replace BKz1:=Aside0.mk (blk_below (bX BKz1.out) hb);replace HB:=Aside0.mk (below_step (hX HB.out) hb);clear hb hbox hg;have hnbz1:=NBz1.out;have hncz1:=NBz2.out;obtain⟨hczz1,hczz2,hczz3,hczz4,hczz5,hfzz1,hfzz2,hfzz3,hfzz4,hfzz5⟩:=cZ5 BKz1.out;obtain⟨hczz6,hczz7,hczz8,hczz9,hczz10,hfzz6,hfzz7,hfzz8,hfzz9,hfzz10⟩:=cZ5 BKz2.out;refine Stop.out ?_))
 refine⟨?_⟩
 by_cases c3:a0_0=a1_0
 ·rw[if_pos c3] at H
  obtain⟨c3b0,c3b1⟩:=eqT c3
  clear c3
  by_cases c4:a0_1=a1_1
  ·rw[if_pos c4] at H
   obtain⟨c4b0,c4b1⟩:=eqT c4
   clear c4
   replace H:=bE H;obtain⟨t103,A5,H⟩:=H
   by_cases c6:t103=true
   ·subst c6
    rw[if_pos rfl] at H
    replace H:=bE H;obtain⟨t104,A7,H⟩:=H
    go_wp2_with (first | ((with_reducible refine gate_callee (f:=182) rfl ?_);refine goesM 182 19 Try.func182 #[.slice A0_2 l0_2.length c0_2,.slice A1_2 l1_2.length c1_2] ?_;refine(Xc.calls k _ _ l0_2 _ _ l1_2 true _ (cC HR0_2.out HB.out) HC0_2.out (cC HR1_2.out HB.out) HC1_2.out A5.out).mono ?_;rintro e wz3 ⟨rfl,hb⟩;refine⟨_,rfl,?_⟩;replace BKz1:=Aside0.mk (blk_below (bX BKz1.out) hb);replace BKz2:=Aside0.mk (blk_below (bX BKz2.out) hb);replace HB:=Aside0.mk (below_step (hX HB.out) hb);clear hb;obtain⟨hczz11,hczz12,hczz13,hczz14,hczz15,hfzz11,hfzz12,hfzz13,hfzz14,hfzz15⟩:=cZ5 BKz1.out;obtain⟨hczz16,hczz17,hczz18,hczz19,hczz20,hfzz16,hfzz17,hfzz18,hfzz19,hfzz20⟩:=cZ5 BKz2.out;refine Stop.out ?_))
    refine⟨?_⟩
    by_cases c8:t104=true
    ·subst c8
     rw[if_pos rfl] at H
     obtain rfl:=Option.some.inj H
     go_wp2_with (first | ((with_reducible refine gate_callee (f:=106) rfl ?_);refine goesM 106 25 Try.func106 #[.agg #[.int .i64 a0_3,.slice A0_4 l0_4.length c0_4],.agg #[.int .i64 a1_3,.slice A1_4 l1_4.length c1_4]] ?_;refine(XR.calls k a0_3 _ _ l0_4 a1_3 _ _ l1_4 true _ (cC HR0_4.out HB.out) HC0_4.out (cC HR1_4.out HB.out) HC1_4.out A7.out).mono ?_;rintro e wz4 ⟨rfl,hb⟩;refine⟨_,rfl,?_⟩;replace BKz1:=Aside0.mk (blk_below (bX BKz1.out) hb);replace BKz2:=Aside0.mk (blk_below (bX BKz2.out) hb);replace HB:=Aside0.mk (below_step (hX HB.out) hb);clear hb))
     go_ret
     exact⟨rE,(hX HB.out)⟩
    ·replace c8:=Bool.eq_false_iff.mpr c8
     subst c8
     rw[if_neg nft] at H
     obtain rfl:=Option.some.inj H
     go_wp2_with (first | ((with_reducible refine gate_callee (f:=106) rfl ?_);refine goesM 106 25 Try.func106 #[.agg #[.int .i64 a0_3,.slice A0_4 l0_4.length c0_4],.agg #[.int .i64 a1_3,.slice A1_4 l1_4.length c1_4]] ?_;refine(XR.calls k a0_3 _ _ l0_4 a1_3 _ _ l1_4 false _ (cC HR0_4.out HB.out) HC0_4.out (cC HR1_4.out HB.out) HC1_4.out A7.out).mono ?_;rintro e wz4 ⟨rfl,hb⟩;refine⟨_,rfl,?_⟩;replace BKz1:=Aside0.mk (blk_below (bX BKz1.out) hb);replace BKz2:=Aside0.mk (blk_below (bX BKz2.out) hb);replace HB:=Aside0.mk (below_step (hX HB.out) hb);clear hb))
     go_ret
     exact⟨rE,(hX HB.out)⟩
   ·replace c6:=Bool.eq_false_iff.mpr c6
    subst c6
    rw[if_neg nft] at H
    obtain rfl:=Option.some.inj H
    go_wp2_with (first | ((with_reducible refine gate_callee (f:=182) rfl ?_);refine goesM 182 19 Try.func182 #[.slice A0_2 l0_2.length c0_2,.slice A1_2 l1_2.length c1_2] ?_;refine(Xc.calls k _ _ l0_2 _ _ l1_2 false _ (cC HR0_2.out HB.out) HC0_2.out (cC HR1_2.out HB.out) HC1_2.out A5.out).mono ?_;rintro e wz3 ⟨rfl,hb⟩;refine⟨_,rfl,?_⟩;replace BKz1:=Aside0.mk (blk_below (bX BKz1.out) hb);replace BKz2:=Aside0.mk (blk_below (bX BKz2.out) hb);replace HB:=Aside0.mk (below_step (hX HB.out) hb);clear hb))
    go_ret
    exact⟨rE,(hX HB.out)⟩
  ·rw[if_neg c4] at H
   obtain⟨c4b0,c4b1⟩:=eqF c4
   obtain rfl:=Option.some.inj H
   go_wp2
   go_ret
   exact⟨rE,(hX HB.out)⟩
 ·rw[if_neg c3] at H
  obtain⟨c3b0,c3b1⟩:=eqF c3
  obtain rfl:=Option.some.inj H
  go_wp2
  go_ret
  exact⟨rE,(hX HB.out)⟩
end Go.Proofs.Yteamagejhbkhnaa.P
