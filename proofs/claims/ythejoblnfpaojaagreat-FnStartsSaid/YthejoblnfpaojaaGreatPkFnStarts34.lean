/- A part of the proof of the law FnStarts: texts of this seat, merged (words, printed functions of the program, plain lemmas). Conditions: none of its own. -/
import Derived.Test.YthejoblnfpaojaaGreatPkFnStarts29
set_option linter.unusedSimpArgs false
set_option linter.unusedVariables false
set_option maxHeartbeats 8000000
set_option maxRecDepth 100000
namespace Go.Proofs.YthejoblnfpaojaaGreat.P
open Go.Proofs.YthejoblnfpaojaaGreatZ Go.RowKit Go.Proofs.YthejoblnfpaojaaGreatW.PrintWords Go.Proofs.YthejoblnfpaojaaGreatW.PrintLast Go.Proofs.YthejoblnfpaojaaGreatW.PrintMore
attribute [local go_sem] max2_int min2_int max_two min_two max_three min_three max_four min_four   -- for this text's walks alone
def Xv.l0:Nat→List (List (S78))→Bool→Int→List (S51)→List (S58)→List (S108)→Int→List Int→Int→Option ((List (S51)) × (List (S58)) × (List (S108)) × Int × (List (S80)) × List Int × List Int × Int × Bool)
 | 0,_,_,_,_,_,_,_,_,_=>none
 | k+1,x1,x7,x9,x116000,x116001,x116002,x116003,x116006,x116007=>if x9<(x1.length:Int) then (if 0≤x9 then ((Xau.f (rd_L3 x1 x9)).bind fun bt117=>(if x116002.length<1599289640401 then (Xv.l0 k x1 x7 (wrap64 (x9+1)) x116000 x116001 (x116002 ++ [(⟨bt117.1,bt117.2.1,bt117.2.2.1,bt117.2.2.2.1,bt117.2.2.2.2⟩:S108)]) x116003 x116006 x116007) else (none))) else (none)) else (if x7=true then ((Xh.f k x116000 x116001 x116002 x116003 ([]:List (S80)) ([]:List Int) x116006 x116007).bind fun t131=>(if t131=true then (some (x116000,x116001,x116002,x116003,([]:List (S80)),([]:List Int),x116006,x116007,true)) else (some (([]:List (S51)),([]:List (S58)),([]:List (S108)),0,([]:List (S80)),([]:List Int),([]:List Int),0,false)))) else (some (([]:List (S51)),([]:List (S58)),([]:List (S108)),0,([]:List (S80)),([]:List Int),([]:List Int),0,false)))
def Xv.f (k:Nat) (l0_0:List Int) (a0_1:Int) (l1:List (List (S78))):Option ((List (S51)) × (List (S58)) × (List (S108)) × Int × (List (S80)) × List Int × List Int × Int × Bool):=(XG.f k l0_0 a0_1 (l1.length:Int)).bind fun bt103=>((X4.f l0_0 a0_1).bind fun bt111=>(Xv.l0 k l1 bt103.2.2 0 bt103.1 bt103.2.1 ([]:List (S108)) 0 bt111.1 bt111.2))
def Xv.T6:Bool × List (List Nat × List Nat):=(true,[([],[]),([0],[0]),([],[]),([],[]),([2,3],[2,3]),([4],[4]),([5],[5]),([6],[6]),([1,7,6],[1,7]),([0,1,2,3,4,5,6,7,8],[]),([9,8,8,0,1,2,3,4,5,6,7,8],[8,9])])
def Xv.B6:List Nat:=[0,1,0,0,12,28,60,124,255,511,1023]
theorem Xv.tab6:rtab .any (opsOf Tryz.f11 6)=Xv.T6:=by kernel_rfl
theorem Xv.bits6:waitsOk Xv.T6.2 Xv.B6=true:=by kernel_rfl
theorem Xv.calls (k:Nat) (A0_0:Option Addr) (c0_0:Nat) (l0_0:List Int) (a0_1:Int) (A1:Option Addr) (c1:Nat) (l1:List (List (S78))) (r1:List (S51)) (r2:List (S58)) (r3:List (S108)) (r4:Int) (r5:List (S80)) (r6:List Int) (r7:List Int) (r8:Int) (r9:Bool) (w:World) (h0_0:Rw (Kd.int .i64) w A0_0 c0_0 l0_0) (h1:Rw (Kd.slice 78 k78) w A1 c1 l1) (h:Xv.f k l0_0 a0_1 l1=some (r1,r2,r3,r4,r5,r6,r7,r8,r9)) :
  Calls Tryz.prog 11 #[.agg #[.slice A0_0 l0_0.length c0_0,.int .i64 a0_1],.slice A1 l1.length c1] w fun e w'=>∃ v0_ v1_ v2_ v4_ v5_ v6_:Value,e = .returned (.tuple #[.agg #[v0_,v1_,v2_,.int .i64 r4,v4_,v5_,v6_,.int .i64 r8],.bool r9])∧Kd.R k51 51 w' w.heap.size (fun _=>True) v0_ r1∧Kd.S k58 58 w' w.heap.size (fun k_=>some k_ ≠ (v5_:Value).ownBlock∧some k_ ≠ (v6_:Value).ownBlock) v1_ r2∧Kd.S k108 108 w' w.heap.size (fun _=>True) v2_ r3∧Kd.S k80 80 w' w.heap.size (fun k_=>some k_ ≠ (v5_:Value).ownBlock∧some k_ ≠ (v6_:Value).ownBlock) v4_ r5∧Kd.R (Kd.int .i64) 3 w' w.heap.size (fun k_=>some k_ ≠ (v6_:Value).ownBlock) v5_ r6∧Kd.R (Kd.int .i64) 3 w' w.heap.size (fun k_=>some k_ ≠ (v5_:Value).ownBlock) v6_ r7∧Below w.heap.size w w':=by
 have hu26:=Tryz.underlying26
 have hu37:=Tryz.underlying37
 have hu33:=Tryz.underlying33
 obtain⟨HR0_0,HC0_0⟩:=h0_0
 obtain⟨HR1,HC1⟩:=h1
 have HB:=aM (Below.refl w.heap.size w)
 have H:=h
 unfold Xv.f at H
 clear h
 replace H:=bE H;obtain⟨⟨t103,t106,t109⟩,A3,H⟩:=H
 try dsimp only at H
 replace H:=bE H;obtain⟨⟨t111,t114⟩,A4,H⟩:=H
 try dsimp only at H
 have H':=aM H
 clear H
 go_enter Tryz.func11,Tryz.ntmps11
 try go_wp2_with (first | (refine boxE 2 #[.slice A0_0 l0_0.length c0_0,.int .i64 a0_1] 26 ?_;intro gbz1 hg wz1 hbox hb;have BKz1:=aM (hbox);have GWz1:=aG hg HB;replace HB:=aS HB hb;clear hb hbox hg) | (refine boxE 4 #[.slice none 0 0,.slice none 0 0,.slice none 0 0,.int .i64 0,.slice none 0 0,.slice none 0 0,.slice none 0 0,.int .i64 0] 37 ?_;intro gbz2 hg wz2 hbox hb;have BKz2:=aM (hbox);have GWz2:=aG hg HB;have NBz1:=aL hg BKz1;have NBz2:=aR hg BKz1;replace BKz1:=aB BKz1 hb;replace HB:=aS HB hb;clear hb hbox hg;have hnbz1:=nB NBz1 NBz2;have hczz1:=cZ2 BKz1.out) | ((with_reducible refine gate_callee (f:=19) rfl ?_);refine goesM 19 14 Tryz.func19 #[.agg #[.slice A0_0 l0_0.length c0_0,.int .i64 a0_1],.int .i64 (l1.length:Int)] ?_;refine(XG.calls _ _ _ _ _ _ _ _ _ _ (rW HR0_0 HB HC0_0) A3.out).mono ?_;rintro e wz3 ⟨vz1,vz2,rfl,hoz1,hoz2,hb⟩;refine⟨_,rfl,?_⟩;have HOz1:=aM (Kd.R_lower hoz1 (below_size (hX HB.out)));have HOz2:=aM (Kd.S_lower hoz2 (below_size (hX HB.out)));replace BKz1:=aB BKz1 hb;replace BKz2:=aB BKz2 hb;replace HB:=aS HB hb;clear hb hoz1 hoz2) | (refine boxE 6 #[.slice none 0 0,.slice none 0 0] 33 ?_;intro gbz3 hg wz4 hbox hb;have BKz3:=aM (hbox);have GWz3:=aG hg HB;have NBz3:=aL hg BKz1;have NBz4:=aR hg BKz1;have NBz5:=aL hg BKz2;have NBz6:=aR hg BKz2;replace HOz1:=aQ HOz1 hb;replace HOz2:=aT HOz2 hb;replace BKz1:=aB BKz1 hb;replace BKz2:=aB BKz2 hb;replace HB:=aS HB hb;clear hb hbox hg;obtain⟨Aoz1,coz1,eoz1⟩:=Kd.R_slice HOz1.out;subst eoz1;have hnbz2:=nB NBz4 NBz3;have hnbz3:=nB NBz6 NBz5;have hczz3:=cZ2 BKz3.out;obtain⟨Aoz2,coz2,eoz2⟩:=Kd.S_slice HOz2.out;subst eoz2))
 have nz1:Aside0 (Kd.R k51 51 ((wz4.setCell ⟨gbz3,0,none⟩ (.slice Aoz1 t103.length coz1)).setCell ⟨gbz3,1,none⟩ (.slice Aoz2 t106.length coz2)) w.heap.size (fun _=>True) (.slice Aoz1 t103.length coz1) t103):=⟨(Kd.R_mono (rF HOz1.out BKz3.out) (fun _ hk=>trivial))⟩
 have nz2:Aside0 (Kd.S k58 58 ((wz4.setCell ⟨gbz3,0,none⟩ (.slice Aoz1 t103.length coz1)).setCell ⟨gbz3,1,none⟩ (.slice Aoz2 t106.length coz2)) w.heap.size (fun _=>True) (.slice Aoz2 t106.length coz2) t106):=⟨by (with_reducible repeat (first | apply Kd.S_alloc | apply Kd.S_drewN | apply Kd.S_drew));exact Kd.S_mono (sF HOz2.out BKz3.out) (fun _ hk=>trivial)⟩
 have nz3:Aside0 (((wz4.setCell ⟨gbz3,0,none⟩ (.slice Aoz1 t103.length coz1)).setCell ⟨gbz3,1,none⟩ (.slice Aoz2 t106.length coz2)).heap[gbz1]? = some (.cells #[.slice A0_0 l0_0.length c0_0,.int .i64 a0_1] 26 (0,0))):=⟨(bF BKz1.out)⟩
 have nz4:Aside0 (((wz4.setCell ⟨gbz3,0,none⟩ (.slice Aoz1 t103.length coz1)).setCell ⟨gbz3,1,none⟩ (.slice Aoz2 t106.length coz2)).heap[gbz2]? = some (.cells #[.slice none 0 0,.slice none 0 0,.slice none 0 0,.int .i64 0,.slice none 0 0,.slice none 0 0,.slice none 0 0,.int .i64 0] 37 (0,0))):=⟨(bF BKz2.out)⟩
 have nz5:Aside0 (((wz4.setCell ⟨gbz3,0,none⟩ (.slice Aoz1 t103.length coz1)).setCell ⟨gbz3,1,none⟩ (.slice Aoz2 t106.length coz2)).heap[gbz3]? = some (.cells #[.slice Aoz1 t103.length coz1,.slice Aoz2 t106.length coz2] 33 (0,0))):=⟨(bP BKz3.out)⟩
 have nz6:Aside0 (Below w.heap.size w ((wz4.setCell ⟨gbz3,0,none⟩ (.slice Aoz1 t103.length coz1)).setCell ⟨gbz3,1,none⟩ (.slice Aoz2 t106.length coz2))):=⟨(hX HB.out)⟩
 (try clear HOz1)
 (try clear HOz2)
 (try clear BKz1)
 (try clear BKz2)
 (try clear BKz3)
 (try clear HB)
 generalize ((wz4.setCell ⟨gbz3,0,none⟩ (.slice Aoz1 t103.length coz1)).setCell ⟨gbz3,1,none⟩ (.slice Aoz2 t106.length coz2))=wz5 at nz1 nz2 nz3 nz4 nz5 nz6 ⊢
 have HOz1:=nz1
 have HOz2:=nz2
 have BKz1:=nz3
 have BKz2:=nz4
 have BKz3:=nz5
 have HB:=nz6
 clear nz1 nz2 nz3 nz4 nz5 nz6
 replace HOz1:=aM (Kd.R_drew HOz1.out)
 replace HOz2:=aM (Kd.S_drew HOz2.out)
 replace BKz1:=aM (blk_drew BKz1.out)
 replace BKz2:=aM (blk_drew BKz2.out)
 replace BKz3:=aM (blk_drew BKz3.out)
 replace HB:=aM (below_drew1 HB.out)
 refine start_ (n:=6) (S:=fun w'=>w'.cell? ⟨gbz3,0,none⟩=some (.slice Aoz1 t103.length coz1)∧w'.cell? ⟨gbz3,1,none⟩=some (.slice Aoz2 t106.length coz2)∧w'.cell? ⟨gbz1,0,none⟩=some (.slice A0_0 l0_0.length c0_0)∧w'.cell? ⟨gbz1,1,none⟩=some (.int .i64 a0_1)) (ds:=[]) (bm 6 0) (by kernel_rfl) rfl (by kernel_rfl) ⟨cK BKz3.out 0,cK BKz3.out 1,cK BKz1.out 0,cK BKz1.out 1⟩ (fun hHeld => ?_)
 generalize wz5.drew=wz6 at HOz1 HOz2 BKz1 BKz2 BKz3 HB hHeld ⊢
 refine tK 0 17 (bm 6 1) hHeld ?_
 refine tK 1 18 (bm 6 3) hHeld ?_
 refine join_ (σ:=Value × Nat) 1 #[true,true,true,true,true,false] (fun s_=>[(19,.agg #[s_.1,.int .i64 t114]),(8,.pointer (some ⟨s_.2,0,none⟩)),(20,.agg #[.slice Aoz1 t103.length coz1,.slice Aoz2 t106.length coz2,.slice none 0 0,.int .i64 0,.slice none 0 0,.slice none 0 0,s_.1,.int .i64 t114])]) (fun s_ w'=>(w'.cell? ⟨gbz3,0,none⟩=some (.slice Aoz1 t103.length coz1)∧w'.cell? ⟨gbz3,1,none⟩=some (.slice Aoz2 t106.length coz2)∧w'.cell? ⟨gbz1,0,none⟩=some (.slice A0_0 l0_0.length c0_0)∧w'.cell? ⟨gbz1,1,none⟩=some (.int .i64 a0_1))∧(Kd.R k51 51 w' w.heap.size (fun _=>True) (.slice Aoz1 t103.length coz1) t103)∧(Kd.S k58 58 w' w.heap.size (fun k_=>some k_ ≠ (s_.1:Value).ownBlock) (.slice Aoz2 t106.length coz2) t106)∧(Kd.R (Kd.int .i64) 3 w' w.heap.size (fun _=>True) s_.1 t111)∧(w'.heap[gbz1]? = some (.cells #[.slice A0_0 l0_0.length c0_0,.int .i64 a0_1] 26 (0,0)))∧(w'.heap[gbz2]? = some (.cells #[.slice none 0 0,.slice none 0 0,.slice none 0 0,.int .i64 0,.slice none 0 0,.slice none 0 0,.slice none 0 0,.int .i64 0] 37 (0,0)))∧(w'.heap[gbz3]? = some (.cells #[.slice Aoz1 t103.length coz1,.slice Aoz2 t106.length coz2] 33 (0,0)))∧(w'.heap[s_.2]? = some (.cells #[.slice none 0 0,.slice none 0 0,.slice none 0 0,.int .i64 0,.slice none 0 0,.slice none 0 0,.slice none 0 0,.int .i64 0] 37 (0,0)))∧(w.heap.size≤s_.2)∧(w.heap.size≤s_.2)∧(gbz1 ≠ s_.2)∧(s_.2 ≠ gbz1)∧(gbz2 ≠ s_.2)∧(s_.2 ≠ gbz2)∧(gbz3 ≠ s_.2)∧(s_.2 ≠ gbz3)∧(Below w.heap.size w w')) ?_ ?_
 rotate_left
 ·intro hCont
  refine two_ (i:=2) (j:=4) (Ni:=some 19) (Nj:=some 8) #[true,true,true,false,false,false] #[true,true,false,false,true,false] rfl rfl rfl rfl (by kernel_rfl) (by decide) (by decide) (fun K hK => ?_) (fun K hK => ?_)
  ·skip
   refine goesN Tryz.func80 #[.agg #[.slice A0_0 l0_0.length c0_0,.int .i64 a0_1]] ?_
   refine(X4.calls _ _ l0_0 a0_1 t111 t114 _ (rW HR0_0 HB HC0_0) A4.out).mono ?_
   rintro e wz7 ⟨vz3,rfl,hoz1,hb⟩
   refine⟨_,rfl,?_⟩
   have HOz3:=aM (Kd.R_lower hoz1 (below_size (hX HB.out)))
   replace HOz1:=aQ HOz1 hb
   replace HOz2:=aM (Kd.S_elder' (sX HOz2.out) (Kd.R_base hoz1) hb)
   replace BKz1:=aB BKz1 hb
   replace BKz2:=aB BKz2 hb
   replace BKz3:=aB BKz3 hb
   replace HB:=aS HB hb
   (try clear hb)
   (try clear hk)
   (try clear hoz1)
   obtain⟨Aoz3,coz3,eoz3⟩:=Kd.R_slice HOz3.out
   (first | subst eoz3 | (injection eoz3 with f1_ f2_ f3_;have fz1:=f1_.symm;have fz2:=f3_.symm;clear f1_ f2_ f3_;subst fz1;subst fz2))
   refine hK.out _ _ ⟨cK BKz3.out 0,cK BKz3.out 1,cK BKz1.out 0,cK BKz1.out 1⟩ (fun hHeld => ?_)
   clear hK K
   refine nZ 19 ?_
   refine pK 3 20 (bm 6 15) ?_
   refine oK 4 (some 8) (bm 6 31) (fun K hK => ?_)
   refine box_step ?hg (N:=8) ?hd (cs:=#[.slice none 0 0,.slice none 0 0,.slice none 0 0,.int .i64 0,.slice none 0 0,.slice none 0 0,.slice none 0 0,.int .i64 0]) (t:=37) ?hr ?_;(case hd=>rfl);(case hg=>rfl);(case hr=>first | (go_simp;done) | (go_simp;rfl))
   intro gbz4 hg wz8 hbox hb
   have BKz4:=aM (hbox)
   have GWz4:=aG hg HB
   have GEz4:=aG hg HB
   have NBz7:=aL hg BKz1
   have NBz8:=aR hg BKz1
   have NBz9:=aL hg BKz2
   have NBz10:=aR hg BKz2
   have NBz11:=aL hg BKz3
   have NBz12:=aR hg BKz3
   replace HOz1:=aQ HOz1 hb
   replace HOz2:=aT HOz2 hb
   replace HOz3:=aQ HOz3 hb
   replace BKz1:=aB BKz1 hb
   replace BKz2:=aB BKz2 hb
   replace BKz3:=aB BKz3 hb
   replace HB:=aS HB hb
   clear hb hbox hg
   refine hK.out _ _ ⟨cK BKz3.out 0,cK BKz3.out 1,cK BKz1.out 0,cK BKz1.out 1⟩ (fun hHeld => ?_)
   clear hK K
   refine nZ 8 ?_
   exact norm_ (by simp only[putAll,Act.put,List.setIfInBounds_toArray,List.set_cons_zero,List.set_cons_succ]) (hCont (.slice Aoz3 t111.length coz3,gbz4) _ ⟨hHeld,(rX HOz1.out),(by (with_reducible repeat (first | apply Kd.S_alloc | apply Kd.S_drewN | apply Kd.S_drew));exact Kd.S_mono HOz2.out (fun _ hk=>hk.2)),(rX HOz3.out),(bX BKz1.out),(bX BKz2.out),(bX BKz3.out),(bX BKz4.out),GWz4.out,GEz4.out,NBz7.out,NBz8.out,NBz9.out,NBz10.out,NBz11.out,NBz12.out,(hX HB.out)⟩)
  skip
  refine box_step ?hg (N:=8) ?hd (cs:=#[.slice none 0 0,.slice none 0 0,.slice none 0 0,.int .i64 0,.slice none 0 0,.slice none 0 0,.slice none 0 0,.int .i64 0]) (t:=37) ?hr ?_;(case hd=>rfl);(case hg=>rfl);(case hr=>first | (go_simp;done) | (go_simp;rfl))
  intro gbz4 hg wz7 hbox hb
  have BKz4:=aM (hbox)
  have GWz4:=aG hg HB
  have GEz4:=aG hg HB
  have NBz7:=aL hg BKz1
  have NBz8:=aR hg BKz1
  have NBz9:=aL hg BKz2
  have NBz10:=aR hg BKz2
  have NBz11:=aL hg BKz3
  have NBz12:=aR hg BKz3
  replace HOz1:=aQ HOz1 hb
  replace HOz2:=aT HOz2 hb
  replace BKz1:=aB BKz1 hb
  replace BKz2:=aB BKz2 hb
  replace BKz3:=aB BKz3 hb
  replace HB:=aS HB hb
  clear hb hbox hg
  refine hK.out _ _ ⟨cK BKz3.out 0,cK BKz3.out 1,cK BKz1.out 0,cK BKz1.out 1⟩ (fun hHeld => ?_)
  clear hK K
  refine nZ 8 ?_
  refine oK 2 (some 19) (bm 6 23) (fun K hK => ?_)
  refine goesN Tryz.func80 #[.agg #[.slice A0_0 l0_0.length c0_0,.int .i64 a0_1]] ?_
  refine(X4.calls _ _ l0_0 a0_1 t111 t114 _ (rW HR0_0 HB HC0_0) A4.out).mono ?_
  rintro e wz9 ⟨vz3,rfl,hoz1,hb⟩
  refine⟨_,rfl,?_⟩
  have HOz3:=aM (Kd.R_lower hoz1 (below_size (hX HB.out)))
  replace HOz1:=aQ HOz1 hb
  replace HOz2:=aM (Kd.S_elder' (sX HOz2.out) (Kd.R_base hoz1) hb)
  replace BKz1:=aB BKz1 hb
  replace BKz2:=aB BKz2 hb
  replace BKz3:=aB BKz3 hb
  replace BKz4:=aB BKz4 hb
  replace HB:=aS HB hb
  (try clear hb)
  (try clear hk)
  (try clear hoz1)
  obtain⟨Aoz4,coz4,eoz4⟩:=Kd.R_slice HOz3.out
  (first | subst eoz4 | (injection eoz4 with f1_ f2_ f3_;have fz1:=f1_.symm;have fz2:=f3_.symm;clear f1_ f2_ f3_;subst fz1;subst fz2))
  refine hK.out _ _ ⟨cK BKz3.out 0,cK BKz3.out 1,cK BKz1.out 0,cK BKz1.out 1⟩ (fun hHeld => ?_)
  clear hK K
  refine nZ 19 ?_
  refine pK 3 20 (bm 6 31) ?_
  exact norm_ (by simp only[putAll,Act.put,List.setIfInBounds_toArray,List.set_cons_zero,List.set_cons_succ]) (hCont (.slice Aoz4 t111.length coz4,gbz4) _ ⟨hHeld,(rX HOz1.out),(by (with_reducible repeat (first | apply Kd.S_alloc | apply Kd.S_drewN | apply Kd.S_drew));exact Kd.S_mono HOz2.out (fun _ hk=>hk.2)),(rX HOz3.out),(bX BKz1.out),(bX BKz2.out),(bX BKz3.out),(bX BKz4.out),GWz4.out,GEz4.out,NBz7.out,NBz8.out,NBz9.out,NBz10.out,NBz11.out,NBz12.out,(hX HB.out)⟩)
 rintro⟨vz3,gbz4⟩ wz10 ⟨hS_,hz1,hz2,hz3,hz4,hz5,hz6,hz7,hz8,hz9,hz10,hz11,hz12,hz13,hz14,hz15,hz16⟩
 have nz1:Aside0 (Kd.R k51 51 wz10 w.heap.size (fun _=>True) (.slice Aoz1 t103.length coz1) t103):=⟨hz1⟩
 have nz2:Aside0 (Kd.S k58 58 wz10 w.heap.size (fun k_=>some k_ ≠ (vz3:Value).ownBlock) (.slice Aoz2 t106.length coz2) t106):=⟨hz2⟩
 have nz3:Aside0 (Kd.R (Kd.int .i64) 3 wz10 w.heap.size (fun _=>True) vz3 t111):=⟨hz3⟩
 have nz4:Aside0 (wz10.heap[gbz1]? = some (.cells #[.slice A0_0 l0_0.length c0_0,.int .i64 a0_1] 26 (0,0))):=⟨hz4⟩
 have nz5:Aside0 (wz10.heap[gbz2]? = some (.cells #[.slice none 0 0,.slice none 0 0,.slice none 0 0,.int .i64 0,.slice none 0 0,.slice none 0 0,.slice none 0 0,.int .i64 0] 37 (0,0))):=⟨hz5⟩
 have nz6:Aside0 (wz10.heap[gbz3]? = some (.cells #[.slice Aoz1 t103.length coz1,.slice Aoz2 t106.length coz2] 33 (0,0))):=⟨hz6⟩
 have nz7:Aside0 (wz10.heap[gbz4]? = some (.cells #[.slice none 0 0,.slice none 0 0,.slice none 0 0,.int .i64 0,.slice none 0 0,.slice none 0 0,.slice none 0 0,.int .i64 0] 37 (0,0))):=⟨hz7⟩
 have nz8:Aside0 (w.heap.size≤gbz4):=⟨hz8⟩
 have nz9:Aside0 (w.heap.size≤gbz4):=⟨hz9⟩
 have nz10:Aside0 (gbz1 ≠ gbz4):=⟨hz10⟩
 have nz11:Aside0 (gbz4 ≠ gbz1):=⟨hz11⟩
 have nz12:Aside0 (gbz2 ≠ gbz4):=⟨hz12⟩
 have nz13:Aside0 (gbz4 ≠ gbz2):=⟨hz13⟩
 have nz14:Aside0 (gbz3 ≠ gbz4):=⟨hz14⟩
 have nz15:Aside0 (gbz4 ≠ gbz3):=⟨hz15⟩
 have nz16:Aside0 (Below w.heap.size w wz10):=⟨hz16⟩
 clear HOz1
 clear HOz2
 clear BKz1
 clear BKz2
 clear BKz3
 clear HB
 clear hz1 hz2 hz3 hz4 hz5 hz6 hz7 hz8 hz9 hz10 hz11 hz12 hz13 hz14 hz15 hz16
 have HOz1:=nz1
 have HOz2:=nz2
 have HOz3:=nz3
 have BKz1:=nz4
 have BKz2:=nz5
 have BKz3:=nz6
 have BKz4:=nz7
 have GWz4:=nz8
 have GEz4:=nz9
 have NBz7:=nz10
 have NBz8:=nz11
 have NBz9:=nz12
 have NBz10:=nz13
 have NBz11:=nz14
 have NBz12:=nz15
 have HB:=nz16
 clear nz1 nz2 nz3 nz4 nz5 nz6 nz7 nz8 nz9 nz10 nz11 nz12 nz13 nz14 nz15 nz16
 have hHeld:wz10.cell? ⟨gbz3,0,none⟩=some (.slice Aoz1 t103.length coz1)∧wz10.cell? ⟨gbz3,1,none⟩=some (.slice Aoz2 t106.length coz2)∧wz10.cell? ⟨gbz1,0,none⟩=some (.slice A0_0 l0_0.length c0_0)∧wz10.cell? ⟨gbz1,1,none⟩=some (.int .i64 a0_1):=hS_
 obtain⟨Aoz5,coz5,eoz5⟩:=Kd.R_slice HOz3.out
 (first | subst eoz5 | (injection eoz5 with f1_ f2_ f3_;have fz1:=f1_.symm;have fz2:=f3_.symm;clear f1_ f2_ f3_;subst fz1;subst fz2))
 refine norm_ (a':=?_) ?_ ?_
 rotate_left
 ·simp only[putAll,Act.put,List.setIfInBounds_toArray,List.set_cons_zero,List.set_cons_succ]
  rfl
 refine oK 5 none (bm 6 63) (fun K hK => ?_)
 have hsz1:wz10.cell? ⟨gbz4,0,none⟩=some (.slice none 0 0):=(blk_cell BKz4.out 0).trans rfl
 have hfsz1:=blk_frozen BKz4.out 0
 have hnsz1:=nB NBz7 NBz9
 have hnsz3:=NBz11.out
 have hmsz1:=NBz8.out
 have hmsz2:=NBz10.out
 have hmsz3:=NBz12.out
 have hsz2:wz10.cell? ⟨gbz4,1,none⟩=some (.slice none 0 0):=(blk_cell BKz4.out 1).trans rfl
 have hfsz2:=blk_frozen BKz4.out 1
 have hnsz4:=nB NBz7 NBz9
 have hnsz6:=NBz11.out
 have hmsz4:=NBz8.out
 have hmsz5:=NBz10.out
 have hmsz6:=NBz12.out
 have hsz3:wz10.cell? ⟨gbz4,2,none⟩=some (.slice none 0 0):=(blk_cell BKz4.out 2).trans rfl
 have hfsz3:=blk_frozen BKz4.out 2
 have hnsz7:=nB NBz7 NBz9
 have hnsz9:=NBz11.out
 have hmsz7:=NBz8.out
 have hmsz8:=NBz10.out
 have hmsz9:=NBz12.out
 have hsz4:wz10.cell? ⟨gbz4,3,none⟩=some (.int .i64 0):=(blk_cell BKz4.out 3).trans rfl
 have hfsz4:=blk_frozen BKz4.out 3
 have hnsz10:=nB NBz7 NBz9
 have hnsz12:=NBz11.out
 have hmsz10:=NBz8.out
 have hmsz11:=NBz10.out
 have hmsz12:=NBz12.out
 have hsz5:wz10.cell? ⟨gbz4,4,none⟩=some (.slice none 0 0):=(blk_cell BKz4.out 4).trans rfl
 have hfsz5:=blk_frozen BKz4.out 4
 have hnsz13:=nB NBz7 NBz9
 have hnsz15:=NBz11.out
 have hmsz13:=NBz8.out
 have hmsz14:=NBz10.out
 have hmsz15:=NBz12.out
 have hsz6:wz10.cell? ⟨gbz4,5,none⟩=some (.slice none 0 0):=(blk_cell BKz4.out 5).trans rfl
 have hfsz6:=blk_frozen BKz4.out 5
 have hnsz16:=nB NBz7 NBz9
 have hnsz18:=NBz11.out
 have hmsz16:=NBz8.out
 have hmsz17:=NBz10.out
 have hmsz18:=NBz12.out
 have hsz7:wz10.cell? ⟨gbz4,6,none⟩=some (.slice none 0 0):=(blk_cell BKz4.out 6).trans rfl
 have hfsz7:=blk_frozen BKz4.out 6
 have hnsz19:=nB NBz7 NBz9
 have hnsz21:=NBz11.out
 have hmsz19:=NBz8.out
 have hmsz20:=NBz10.out
 have hmsz21:=NBz12.out
 have hsz8:wz10.cell? ⟨gbz4,7,none⟩=some (.int .i64 0):=(blk_cell BKz4.out 7).trans rfl
 have hfsz8:=blk_frozen BKz4.out 7
 have hnsz22:=nB NBz7 NBz9
 have hnsz24:=NBz11.out
 have hmsz22:=NBz8.out
 have hmsz23:=NBz10.out
 have hmsz24:=NBz12.out
 refine skip_ (w1:=?_) (by rfl) rfl ?_ ?_
 rotate_left
 ·go_simp
  rfl
 refine hK.out _ _ ⟨(fA NBz11.out hHeld.1),(fA NBz11.out hHeld.2.1),(fA NBz7.out hHeld.2.2.1),(fA NBz7.out hHeld.2.2.2)⟩ (fun hHeld => ?_)
 clear hK K
 refine done_ (by kernel_rfl) ?_
 try go_wp2
 go_loopg [9] k (fun kq v9 w'=>∃ (x9_1:Int) (x116002_1:List (S108)) (u116002:Value),v9 = .int .i64 x9_1∧Aside0 (Xv.l0 kq l1 t109 x9_1 t103 t106 x116002_1 0 t111 t114=some (r1,r2,r3,r4,r5,r6,r7,r8,r9))∧Aside0 (kq≤k)∧Aside0 (Kd.R k51 51 w' w.heap.size (fun _=>True) (.slice Aoz1 t103.length coz1) t103)∧Aside0 (Kd.S k58 58 w' w.heap.size (fun k_=>some k_ ≠ ((.slice Aoz5 t111.length coz5):Value).ownBlock) (.slice Aoz2 t106.length coz2) t106)∧Aside0 (Kd.R k51 51 w' w.heap.size (fun _=>True) (.slice Aoz1 t103.length coz1) t103)∧Aside0 (Kd.S k58 58 w' w.heap.size (fun k_=>some k_ ≠ ((.slice Aoz5 t111.length coz5):Value).ownBlock) (.slice Aoz2 t106.length coz2) t106)∧Aside0 (Kd.S k108 108 w' w.heap.size (fun _=>True) u116002 x116002_1)∧Aside0 (Kd.R (Kd.int .i64) 3 w' w.heap.size (fun _=>True) (.slice Aoz5 t111.length coz5) t111)∧Aside0 (w'.heap[gbz1]? = some (.cells #[(.slice A0_0 l0_0.length c0_0),.int .i64 a0_1] 26 (0,0)))∧Aside0 (w'.heap[gbz2]? = some (.cells #[(.slice none 0 0),(.slice none 0 0),(.slice none 0 0),.int .i64 0,(.slice none 0 0),(.slice none 0 0),(.slice none 0 0),.int .i64 0] 37 (0,0)))∧Aside0 (w'.heap[gbz3]? = some (.cells #[(.slice Aoz1 t103.length coz1),(.slice Aoz2 t106.length coz2)] 33 (0,0)))∧Aside0 (w'.heap[gbz4]? = some (.cells #[(.slice Aoz1 t103.length coz1),(.slice Aoz2 t106.length coz2),u116002,.int .i64 0,(.slice none 0 0),(.slice none 0 0),(.slice Aoz5 t111.length coz5),.int .i64 t114] 37 (0,0)))∧Aside0 (Below w.heap.size w w'))
 case atStart=>exact⟨(0),(([]:List (S108))),(.slice none 0 0),rS,H',⟨Nat.le_refl _⟩,⟨(Kd.R_mono (rF HOz1.out BKz4.out) (fun _ hk=>trivial))⟩,⟨by (with_reducible repeat (first | apply Kd.S_alloc | apply Kd.S_drewN | apply Kd.S_drew));exact Kd.S_mono (sF HOz2.out BKz4.out) (fun _ hk=>hk)⟩,⟨(Kd.R_mono (rF HOz1.out BKz4.out) (fun _ hk=>trivial))⟩,⟨by (with_reducible repeat (first | apply Kd.S_alloc | apply Kd.S_drewN | apply Kd.S_drew));exact Kd.S_mono (sF HOz2.out BKz4.out) (fun _ hk=>hk)⟩,⟨by first | exact Kd.S_nil _ _ _ _ _ | exact Kd.N_nil _ _ _ _ _ | exact Kd.V_nil _ _ _ _ _ | exact Kd.Q_nil _ _ _ _ _ | exact Kd.R_nil _ _ _ _ _⟩,⟨(Kd.R_mono (rF HOz3.out BKz4.out) (fun _ hk=>trivial))⟩,⟨(bF BKz1.out)⟩,⟨(bF BKz2.out)⟩,⟨(bF BKz3.out)⟩,⟨(bP BKz4.out)⟩,⟨(hX HB.out)⟩⟩
 case round =>
  clear H'
  try clear hczz3
  try clear hczz1
  obtain⟨x9_1,x116002_1,u116002,rfl,HA,HKy1,HO_y1,HO_y2,HO_y3,HO_y4,HO_y5,HO_y6,BKz1,BKz2,BKz3,BKz4,HB⟩:=hrel
  cases gk with
  | zero=>exact absurd HA.out (by simp[Xv.l0])
  | succ k1 =>
   have H:=HA.out
   clear HA
   simp only[Xv.l0] at H
   revert H;refine iN ?_ ?_<;>intro c31b0 H
   ·cases t109
    case false =>
     rw[if_neg nft] at H
     simp only[Option.some.injEq,Prod.mk.injEq] at H
     obtain⟨rfl,rfl,rfl,rfl,rfl,rfl,rfl,rfl,rfl⟩:=H
     have hnbx1:=NBz2.out
     have hncx1:=NBz1.out
     have hnbx2:=NBz5.out
     have hncx2:=NBz6.out
     have hnbx3:=NBz9.out
     have hncx3:=NBz10.out
     have hczx1:=cZ8 BKz2.out
     go_wp2
     refine bodyPost_ret (results_ct rfl _ _ gbz2 37 #[.slice none 0 0,.slice none 0 0,.slice none 0 0,.int .i64 0,.slice none 0 0,.slice none 0 0,.slice none 0 0,.int .i64 0] (0,0) _ rfl (bP BKz2.out) Tryz.underlying37 rfl (by kernel_rfl)) rfl ?_
     exact⟨(Value.slice none 0 0),(Value.slice none 0 0),(Value.slice none 0 0),(Value.slice none 0 0),(Value.slice none 0 0),(Value.slice none 0 0),rE,(by first | exact Kd.R_nil _ _ _ _ _ | exact Kd.S_nil _ _ _ _ _ | exact Kd.V_nil _ _ _ _ _ | exact Kd.N_nil _ _ _ _ _ | exact Kd.Q_nil _ _ _ _ _),(by first | exact Kd.R_nil _ _ _ _ _ | exact Kd.S_nil _ _ _ _ _ | exact Kd.V_nil _ _ _ _ _ | exact Kd.N_nil _ _ _ _ _ | exact Kd.Q_nil _ _ _ _ _),(by first | exact Kd.R_nil _ _ _ _ _ | exact Kd.S_nil _ _ _ _ _ | exact Kd.V_nil _ _ _ _ _ | exact Kd.N_nil _ _ _ _ _ | exact Kd.Q_nil _ _ _ _ _),(by first | exact Kd.R_nil _ _ _ _ _ | exact Kd.S_nil _ _ _ _ _ | exact Kd.V_nil _ _ _ _ _ | exact Kd.N_nil _ _ _ _ _ | exact Kd.Q_nil _ _ _ _ _),(by first | exact Kd.R_nil _ _ _ _ _ | exact Kd.S_nil _ _ _ _ _ | exact Kd.V_nil _ _ _ _ _ | exact Kd.N_nil _ _ _ _ _ | exact Kd.Q_nil _ _ _ _ _),(by first | exact Kd.R_nil _ _ _ _ _ | exact Kd.S_nil _ _ _ _ _ | exact Kd.V_nil _ _ _ _ _ | exact Kd.N_nil _ _ _ _ _ | exact Kd.Q_nil _ _ _ _ _),(hX HB.out)⟩
    rw[if_pos rfl] at H
    replace H:=bE H;obtain⟨t131,A44,H⟩:=H
    cases t131
    case false =>
     rw[if_neg nft] at H
     simp only[Option.some.injEq,Prod.mk.injEq] at H
     obtain⟨rfl,rfl,rfl,rfl,rfl,rfl,rfl,rfl,rfl⟩:=H
     have hnbx1:=NBz8.out
     have hncx1:=NBz7.out
     have hnbx2:=NBz10.out
     have hncx2:=NBz9.out
     have hnbx3:=NBz12.out
     have hncx3:=NBz11.out
     have hczx1:=cZ8 BKz4.out
     obtain⟨Aox1,cox1,eox1⟩:=Kd.S_slice HO_y5.out
     subst eox1
     go_wp2_with (go_at_call 82;(refine(Xh.calls k1 _ _ t103 _ _ t106 _ _ x116002_1 0 _ _ ([]:List (S80)) _ _ ([]:List Int) _ _ t111 t114 false _ (rw2 ?side1 ?side2) (rw2 ?side3 ?side4) (rw2 ?side5 ?side6) (rw2 ?side7 ?side8) (rw2 ?side9 ?side10) (rw2 ?side11 ?side12) A44.out).mono ?_);(case side1=>repeat (first | exact(Kd.R_reads' HO_y3.out).2.2 | (with_reducible refine Kd.C_alloc ?_ _) | (with_reducible refine Kd.C_drewN ?_ _) | (with_reducible refine Kd.C_drew ?_)));(case side2=>exact(Kd.R_reads' HO_y3.out).2.1);(case side3=>repeat (first | exact(Kd.S_reads' HO_y4.out).2.2 | (with_reducible refine Kd.C_alloc ?_ _) | (with_reducible refine Kd.C_drewN ?_ _) | (with_reducible refine Kd.C_drew ?_)));(case side4=>exact(Kd.S_reads' HO_y4.out).2.1);(case side5=>repeat (first | exact(Kd.S_reads' HO_y5.out).2.2 | (with_reducible refine Kd.C_alloc ?_ _) | (with_reducible refine Kd.C_drewN ?_ _) | (with_reducible refine Kd.C_drew ?_)));(case side6=>exact(Kd.S_reads' HO_y5.out).2.1);(case side7=>exact Kd.C_nil _ _);(case side8=>exact Nat.le_refl _);(case side9=>exact Kd.C_nil _ _);(case side10=>exact Nat.le_refl _);(case side11=>repeat (first | exact(Kd.R_reads' HO_y6.out).2.2 | (with_reducible refine Kd.C_alloc ?_ _) | (with_reducible refine Kd.C_drewN ?_ _) | (with_reducible refine Kd.C_drew ?_)));(case side12=>exact(Kd.R_reads' HO_y6.out).2.1);rintro e wx1 ⟨rfl,hb⟩;replace HO_y1:=aQ HO_y1 hb;replace HO_y2:=aT HO_y2 hb;replace HO_y3:=aQ HO_y3 hb;replace HO_y4:=aT HO_y4 hb;replace HO_y5:=aT HO_y5 hb;replace HO_y6:=aQ HO_y6 hb;replace BKz1:=aB BKz1 hb;replace BKz2:=aB BKz2 hb;replace BKz3:=aB BKz3 hb;replace BKz4:=aB BKz4 hb;replace HB:=aS HB hb;clear hb;have hnbx4:=NBz2.out;have hncx4:=NBz1.out;have hnbx5:=NBz5.out;have hncx5:=NBz6.out;have hczx9:=cZ8 BKz2.out)
     refine bodyPost_ret (results_ct rfl _ _ gbz2 37 #[.slice none 0 0,.slice none 0 0,.slice none 0 0,.int .i64 0,.slice none 0 0,.slice none 0 0,.slice none 0 0,.int .i64 0] (0,0) _ rfl (bP BKz2.out) Tryz.underlying37 rfl (by kernel_rfl)) rfl ?_
     exact⟨(Value.slice none 0 0),(Value.slice none 0 0),(Value.slice none 0 0),(Value.slice none 0 0),(Value.slice none 0 0),(Value.slice none 0 0),rE,(by first | exact Kd.R_nil _ _ _ _ _ | exact Kd.S_nil _ _ _ _ _ | exact Kd.V_nil _ _ _ _ _ | exact Kd.N_nil _ _ _ _ _ | exact Kd.Q_nil _ _ _ _ _),(by first | exact Kd.R_nil _ _ _ _ _ | exact Kd.S_nil _ _ _ _ _ | exact Kd.V_nil _ _ _ _ _ | exact Kd.N_nil _ _ _ _ _ | exact Kd.Q_nil _ _ _ _ _),(by first | exact Kd.R_nil _ _ _ _ _ | exact Kd.S_nil _ _ _ _ _ | exact Kd.V_nil _ _ _ _ _ | exact Kd.N_nil _ _ _ _ _ | exact Kd.Q_nil _ _ _ _ _),(by first | exact Kd.R_nil _ _ _ _ _ | exact Kd.S_nil _ _ _ _ _ | exact Kd.V_nil _ _ _ _ _ | exact Kd.N_nil _ _ _ _ _ | exact Kd.Q_nil _ _ _ _ _),(by first | exact Kd.R_nil _ _ _ _ _ | exact Kd.S_nil _ _ _ _ _ | exact Kd.V_nil _ _ _ _ _ | exact Kd.N_nil _ _ _ _ _ | exact Kd.Q_nil _ _ _ _ _),(by first | exact Kd.R_nil _ _ _ _ _ | exact Kd.S_nil _ _ _ _ _ | exact Kd.V_nil _ _ _ _ _ | exact Kd.N_nil _ _ _ _ _ | exact Kd.Q_nil _ _ _ _ _),(hX HB.out)⟩
    rw[if_pos rfl] at H
    simp only[Option.some.injEq,Prod.mk.injEq] at H
    obtain⟨rfl,rfl,rfl,rfl,rfl,rfl,rfl,rfl,rfl⟩:=H
    have hnbx1:=NBz8.out
    have hncx1:=NBz7.out
    have hnbx2:=NBz10.out
    have hncx2:=NBz9.out
    have hnbx3:=NBz12.out
    have hncx3:=NBz11.out
    have hczx1:=cZ8 BKz4.out
    obtain⟨Aox1,cox1,eox1⟩:=Kd.S_slice HO_y5.out
    subst eox1
    go_wp2_with (go_at_call 82;(refine(Xh.calls k1 _ _ t103 _ _ t106 _ _ x116002_1 0 _ _ ([]:List (S80)) _ _ ([]:List Int) _ _ t111 t114 true _ (rw2 ?side1 ?side2) (rw2 ?side3 ?side4) (rw2 ?side5 ?side6) (rw2 ?side7 ?side8) (rw2 ?side9 ?side10) (rw2 ?side11 ?side12) A44.out).mono ?_);(case side1=>repeat (first | exact(Kd.R_reads' HO_y3.out).2.2 | (with_reducible refine Kd.C_alloc ?_ _) | (with_reducible refine Kd.C_drewN ?_ _) | (with_reducible refine Kd.C_drew ?_)));(case side2=>exact(Kd.R_reads' HO_y3.out).2.1);(case side3=>repeat (first | exact(Kd.S_reads' HO_y4.out).2.2 | (with_reducible refine Kd.C_alloc ?_ _) | (with_reducible refine Kd.C_drewN ?_ _) | (with_reducible refine Kd.C_drew ?_)));(case side4=>exact(Kd.S_reads' HO_y4.out).2.1);(case side5=>repeat (first | exact(Kd.S_reads' HO_y5.out).2.2 | (with_reducible refine Kd.C_alloc ?_ _) | (with_reducible refine Kd.C_drewN ?_ _) | (with_reducible refine Kd.C_drew ?_)));(case side6=>exact(Kd.S_reads' HO_y5.out).2.1);(case side7=>exact Kd.C_nil _ _);(case side8=>exact Nat.le_refl _);(case side9=>exact Kd.C_nil _ _);(case side10=>exact Nat.le_refl _);(case side11=>repeat (first | exact(Kd.R_reads' HO_y6.out).2.2 | (with_reducible refine Kd.C_alloc ?_ _) | (with_reducible refine Kd.C_drewN ?_ _) | (with_reducible refine Kd.C_drew ?_)));(case side12=>exact(Kd.R_reads' HO_y6.out).2.1);rintro e wx1 ⟨rfl,hb⟩;replace HO_y1:=aQ HO_y1 hb;replace HO_y2:=aT HO_y2 hb;replace HO_y3:=aQ HO_y3 hb;replace HO_y4:=aT HO_y4 hb;replace HO_y5:=aT HO_y5 hb;replace HO_y6:=aQ HO_y6 hb;replace BKz1:=aB BKz1 hb;replace BKz2:=aB BKz2 hb;replace BKz3:=aB BKz3 hb;replace BKz4:=aB BKz4 hb;replace HB:=aS HB hb;clear hb;have hczx9:=cZ8 BKz4.out;have hnbx4:=NBz2.out;have hncx4:=NBz1.out;have hnbx5:=NBz5.out;have hncx5:=NBz6.out;have hczx17:=cZ8 BKz2.out)
    refine bodyPost_ret (results_ct rfl _ _ gbz2 37 #[.slice Aoz1 t103.length coz1,.slice Aoz2 t106.length coz2,.slice Aox1 x116002_1.length cox1,.int .i64 0,.slice none 0 0,.slice none 0 0,.slice Aoz5 t111.length coz5,.int .i64 t114] (0,0) _ rfl (bP BKz2.out) Tryz.underlying37 rfl (by kernel_rfl)) rfl ?_
    exact⟨_,_,_,(Value.slice none 0 0),(Value.slice none 0 0),_,rE,(Kd.R_mono (rF HO_y3.out BKz2.out) (fun _ hk=>trivial)),by (with_reducible repeat (first | apply Kd.S_alloc | apply Kd.S_drewN | apply Kd.S_drew));exact Kd.S_mono (sF HO_y4.out BKz2.out) (fun _ hk=>⟨(by simp[Value.ownBlock]),hk⟩),by (with_reducible repeat (first | apply Kd.S_alloc | apply Kd.S_drewN | apply Kd.S_drew));exact Kd.S_mono (sF HO_y5.out BKz2.out) (fun _ hk=>trivial),(by first | exact Kd.R_nil _ _ _ _ _ | exact Kd.S_nil _ _ _ _ _ | exact Kd.V_nil _ _ _ _ _ | exact Kd.N_nil _ _ _ _ _ | exact Kd.Q_nil _ _ _ _ _),(by first | exact Kd.R_nil _ _ _ _ _ | exact Kd.S_nil _ _ _ _ _ | exact Kd.V_nil _ _ _ _ _ | exact Kd.N_nil _ _ _ _ _ | exact Kd.Q_nil _ _ _ _ _),(Kd.R_mono (rF HO_y6.out BKz2.out) (fun _ hk=>(by simp[Value.ownBlock]))),(hX HB.out)⟩
   replace H:=ifQ H;obtain⟨c32b0,H⟩:=H
   replace H:=bE H;obtain⟨⟨t117,t120,t121,t122,t125⟩,A33,H⟩:=H
   try dsimp only at H
   replace H:=ifP H;obtain⟨c34,H⟩:=H
   have LMc34:=aM c34
   clear c34
   obtain⟨y128,hy128⟩:∃ y_:List (S108),y_=(x116002_1 ++ [(⟨t117,t120,t121,t122,t125⟩:S108)]):=⟨_,rfl⟩
   replace H:(Xv.l0 k1 l1 t109 (wrap64 (x9_1+1)) t103 t106 y128 0 t111 t114)=some (r1,r2,r3,r4,r5,r6,r7,r8,r9):=yH H hy128
   have Ny128:=aM hy128
   clear hy128
   have H':=aM H
   clear H
   try go_wp2
   replace HO_y1:=aM (Kd.R_drew HO_y1.out)
   replace HO_y2:=aM (Kd.S_drew HO_y2.out)
   replace HO_y3:=aM (Kd.R_drew HO_y3.out)
   replace HO_y4:=aM (Kd.S_drew HO_y4.out)
   replace HO_y5:=aM (Kd.S_drew HO_y5.out)
   replace HO_y6:=aM (Kd.R_drew HO_y6.out)
   replace BKz1:=aM (blk_drew BKz1.out)
   replace BKz2:=aM (blk_drew BKz2.out)
   replace BKz3:=aM (blk_drew BKz3.out)
   replace BKz4:=aM (blk_drew BKz4.out)
   replace HB:=aM (below_drew1 HB.out)
   have px1:0≤(x9_1:Int):=odA
   have qx1:x9_1<(l1.length:Int):=odA
   obtain⟨adx1,Ax1,cx1,ex1,hxx1,hlx1,hix1⟩:=at_L3 HR1.out x9_1 px1 qx1
   have hwx1:=hxx1
   cases ex1
   replace hxx1:=bc HB.out hxx1
   have HRx1:=aM hix1
   have HCx1:=aM hlx1
   clear hix1 hlx1
   replace px1:=eq_true px1
   replace qx1:=eq_true qx1
   refine start_ (n:=11) (S:=fun w'=>w'.cell? ⟨gbz4,0,none⟩=some (.slice Aoz1 t103.length coz1)∧w'.cell? ⟨gbz4,1,none⟩=some (.slice Aoz2 t106.length coz2)∧w'.cell? ⟨gbz4,2,none⟩=some (u116002)∧w'.cell? ⟨gbz4,3,none⟩=some (.int .i64 0)∧w'.cell? ⟨gbz4,4,none⟩=some (.slice none 0 0)∧w'.cell? ⟨gbz4,5,none⟩=some (.slice none 0 0)∧w'.cell? ⟨gbz4,6,none⟩=some (.slice Aoz5 t111.length coz5)∧w'.cell? ⟨gbz4,7,none⟩=some (.int .i64 t114)∧w'.cell? (adx1.add (x9_1).toNat)=some (.slice Ax1 (rd_L3 l1 x9_1).length cx1)) (ds:=[10]) (bm 11 0) (by kernel_rfl) rfl (by kernel_rfl) ⟨cK BKz4.out 0,cK BKz4.out 1,cK BKz4.out 2,cK BKz4.out 3,cK BKz4.out 4,cK BKz4.out 5,cK BKz4.out 6,cK BKz4.out 7,(bc HB.out hwx1 :)⟩ (fun hHeld => ?_);refine with_tabW Xv.tab6 Xv.bits6 (fun HT_ HW_ => ?_)
   generalize wr.drew=wx1 at HO_y1 HO_y2 HO_y3 HO_y4 HO_y5 HO_y6 BKz1 BKz2 BKz3 BKz4 HB HRx1 hxx1 hHeld ⊢
   refine pZ 0 27 (bm 11 1) HT_.out ?_
   refine pZ 2 29 (bm 11 5) HT_.out ?_
   refine pZ 3 30 (bm 11 13) HT_.out ?_
   refine pZ 4 31 (bm 11 29) HT_.out ?_
   refine tZ 1 28 (bm 11 31) HT_.out HW_.out hHeld ?_
   refine tZ 5 32 (bm 11 63) HT_.out HW_.out hHeld ?_
   refine oZ 6 (some 33) (bm 11 127) HT_.out (fun K hK => ?_)
   refine goesN Tryz.func81 #[.slice Ax1 (rd_L3 l1 x9_1).length cx1] ?_
   refine(Xau.calls _ _ (rd_L3 l1 x9_1) t117 t120 t121 t122 t125 _ (rW HRx1 HB HCx1) A33.out).mono ?_
   rintro e wx2 ⟨vx1,vx2,vx3,rfl,hoz1,hoz2,hox1,hb⟩
   refine⟨_,rfl,?_⟩
   have HOx1:=aM (Kd.R_lower hoz1 (below_size (hX HB.out)))
   have HOx2:=aM (Kd.R_lower hoz2 (below_size (hX HB.out)))
   have HOx3:=aM (Kd.R_lower hox1 (below_size (hX HB.out)))
   replace HO_y1:=aQ HO_y1 hb
   replace HO_y2:=aT HO_y2 hb
   replace HO_y3:=aQ HO_y3 hb
   replace HO_y4:=aT HO_y4 hb
   replace HO_y5:=aM (Kd.S_mono (Kd.S_told (Kd.S_told (Kd.S_told (Kd.S_old (sX HO_y5.out) hb) (Kd.R_base hoz1)) (Kd.R_base hoz2)) (Kd.R_base hox1)) (fun _ h_=>h_.1))
   replace HO_y6:=aQ HO_y6 hb
   replace BKz1:=aB BKz1 hb
   replace BKz2:=aB BKz2 hb
   replace BKz3:=aB BKz3 hb
   replace BKz4:=aB BKz4 hb
   replace HB:=aS HB hb
   (try clear hb)
   (try clear hk)
   (try clear hoz1)
   (try clear hoz2)
   (try clear hox1)
   obtain⟨Aox1,cox1,eox1⟩:=Kd.R_slice HOx1.out
   (first | subst eox1 | (injection eox1 with f1_ f2_ f3_;have fz1:=f1_.symm;have fz2:=f3_.symm;clear f1_ f2_ f3_;subst fz1;subst fz2))
   obtain⟨Aox2,cox2,eox2⟩:=Kd.R_slice HOx2.out
   (first | subst eox2 | (injection eox2 with f1_ f2_ f3_;have fz1:=f1_.symm;have fz2:=f3_.symm;clear f1_ f2_ f3_;subst fz1;subst fz2))
   obtain⟨Aox3,cox3,eox3⟩:=Kd.R_slice HOx3.out
   (first | subst eox3 | (injection eox3 with f1_ f2_ f3_;have fz1:=f1_.symm;have fz2:=f3_.symm;clear f1_ f2_ f3_;subst fz1;subst fz2))
   refine hK.out _ _ ⟨cK BKz4.out 0,cK BKz4.out 1,cK BKz4.out 2,cK BKz4.out 3,cK BKz4.out 4,cK BKz4.out 5,cK BKz4.out 6,cK BKz4.out 7,(bc HB.out hwx1 :)⟩ (fun hHeld => ?_)
   clear hK K
   refine nZ 33 ?_
   refine oZ 7 (some 34) (bm 11 255) HT_.out (fun K hK => ?_)
   refine vZ ?_
   refine hK.out _ _ ⟨(blk_cell (blk_alloc BKz4.out _) 0).trans rfl,(blk_cell (blk_alloc BKz4.out _) 1).trans rfl,(blk_cell (blk_alloc BKz4.out _) 2).trans rfl,(blk_cell (blk_alloc BKz4.out _) 3).trans rfl,(blk_cell (blk_alloc BKz4.out _) 4).trans rfl,(blk_cell (blk_alloc BKz4.out _) 5).trans rfl,(blk_cell (blk_alloc BKz4.out _) 6).trans rfl,(blk_cell (blk_alloc BKz4.out _) 7).trans rfl,(World.cell?_alloc_lt _ _ _ (World.block_lt_of_cell? _ _ ((bc HB.out hwx1 :)))).trans ((bc HB.out hwx1 :))⟩ (fun hHeld => ?_)
   clear hK K
   refine nZ 34 ?_
   refine oZ 8 (some 35) (bm 11 511) HT_.out (fun K hK => ?_)
   refine Kd.S_append_step k108 (w0:=w) w.heap.size (by rfl) (.tmp 28) (.tmp 34) 34 108 (.agg #[(.slice none 0 0),(.int .i64 0),(.bool false),(.slice none 0 0),(.slice none 0 0)]) 88 rfl Tryz.underlying34 info108 rfl (by decide) (by omega) u116002 x116002_1 (⟨t117,t120,t121,t122,t125⟩:S108) [.slice Aox1 t117.length cox1,.int .i64 t120,.bool t121,.slice Aox2 t122.length cox2,.slice Aox3 t125.length cox3] (fun _=>True) (fun k_=>some k_=(.slice Aox1 t117.length cox1:Value).ownBlock ∨ some k_=(.slice Aox2 t122.length cox2:Value).ownBlock ∨ some k_=(.slice Aox3 t125.length cox3:Value).ownBlock) rfl rfl ?aP (fun k_ hk_=>hk_.elim (fun h_=>((Kd.R_mono (ok':=fun k_=>((fun _=>True)) k_∧some k_ ≠ (u116002:Value).ownBlock) (Kd.R_apart' (HOx1.out) (Kd.S_typed HO_y5.out) (by decide)) (fun k_ hk=>⟨trivial,hk.2⟩))).1 k_ h_.symm) (fun h_=>h_.elim (fun h_=>((Kd.R_mono (ok':=fun k_=>((fun _=>True)) k_∧some k_ ≠ (u116002:Value).ownBlock) (Kd.R_apart' (HOx2.out) (Kd.S_typed HO_y5.out) (by decide)) (fun k_ hk=>⟨trivial,hk.2⟩))).1 k_ h_.symm) (fun h_=>((Kd.R_mono (ok':=fun k_=>((fun _=>True)) k_∧some k_ ≠ (u116002:Value).ownBlock) (Kd.R_apart' (HOx3.out) (Kd.S_typed HO_y5.out) (by decide)) (fun k_ hk=>⟨trivial,hk.2⟩))).1 k_ h_.symm))) ?aF ?aO ?aB ?aS ?aL ?_
   (case aP=>exact k108_mkM _ _ _ (⟨t117,t120,t121,t122,t125⟩:S108) (Kd.R_mono (Kd.R_tight rfl (Kd.R_mono (ok':=fun k_=>((fun _=>True)) k_∧some k_ ≠ (u116002:Value).ownBlock) (Kd.R_apart' (HOx1.out) (Kd.S_typed HO_y5.out) (by decide)) (fun k_ hk=>⟨trivial,hk.2⟩))) (fun _ h_=>Or.inl h_)) (Kd.R_mono (Kd.R_tight rfl (Kd.R_mono (ok':=fun k_=>((fun _=>True)) k_∧some k_ ≠ (u116002:Value).ownBlock) (Kd.R_apart' (HOx2.out) (Kd.S_typed HO_y5.out) (by decide)) (fun k_ hk=>⟨trivial,hk.2⟩))) (fun _ h_=>Or.inr (Or.inl h_))) (Kd.R_mono (Kd.R_tight rfl (Kd.R_mono (ok':=fun k_=>((fun _=>True)) k_∧some k_ ≠ (u116002:Value).ownBlock) (Kd.R_apart' (HOx3.out) (Kd.S_typed HO_y5.out) (by decide)) (fun k_ hk=>⟨trivial,hk.2⟩))) (fun _ h_=>Or.inr (Or.inr (h_)))))
   (case aB=>exact(hX HB.out))
   (case aF=>exact(fun _ _=>trivial))
   (case aO=>exact(by (with_reducible repeat (first | apply Kd.S_alloc | apply Kd.S_drewN | apply Kd.S_drew));exact Kd.S_mono HO_y5.out (fun k_ hk=>⟨trivial,fun e_=>e_.elim (fun h_=>hk.1.1.2 h_) (fun h_=>h_.elim (fun h_=>hk.1.2 h_) (fun h_=>hk.2 h_))⟩)))
   (case aS=>exact(below_size (hX HB.out)))
   (case aL=>have:=LMc34.out;omega)
   intro vx4 wx3 ho hb hg hat
   rw[← Ny128.out] at ho
   have HOx4:=aM (ho)
   replace HO_y1:=aM (Kd.R_over' (rX HO_y1.out) (Kd.S_typed (sX HO_y5.out)) (by decide) hg)
   replace HO_y2:=aM (Kd.S_over' (sX HO_y2.out) (Kd.S_typed (sX HO_y5.out)) (by decide) hg)
   replace HO_y3:=aM (Kd.R_over' (rX HO_y3.out) (Kd.S_typed (sX HO_y5.out)) (by decide) hg)
   replace HO_y4:=aM (Kd.S_over' (sX HO_y4.out) (Kd.S_typed (sX HO_y5.out)) (by decide) hg)
   replace HO_y6:=aM (Kd.R_over' (rX HO_y6.out) (Kd.S_typed (sX HO_y5.out)) (by decide) hg)
   replace BKz1:=aM (blk_grown (g:=gbz1) (o:=.cells #[.slice A0_0 l0_0.length c0_0,.int .i64 a0_1] 26 (0,0)) (bX BKz1.out) hg (Kd.S_ne HO_y5.out BKz1.out (by decide)))
   replace BKz2:=aM (blk_grown (g:=gbz2) (o:=.cells #[.slice none 0 0,.slice none 0 0,.slice none 0 0,.int .i64 0,.slice none 0 0,.slice none 0 0,.slice none 0 0,.int .i64 0] 37 (0,0)) (bX BKz2.out) hg (Kd.S_ne HO_y5.out BKz2.out (by decide)))
   replace BKz3:=aM (blk_grown (g:=gbz3) (o:=.cells #[.slice Aoz1 t103.length coz1,.slice Aoz2 t106.length coz2] 33 (0,0)) (bX BKz3.out) hg (Kd.S_ne HO_y5.out BKz3.out (by decide)))
   replace BKz4:=aM (blk_grown (g:=gbz4) (o:=.cells #[.slice Aoz1 t103.length coz1,.slice Aoz2 t106.length coz2,u116002,.int .i64 0,.slice none 0 0,.slice none 0 0,.slice Aoz5 t111.length coz5,.int .i64 t114] 37 (0,0)) (bX BKz4.out) hg (Kd.S_ne HO_y5.out BKz4.out (by decide)))
   replace HB:=aM (hb)
   clear HO_y5 HOx1 HOx2 HOx3
   clear ho hb hg hat
   obtain⟨Aox4,cox4,eox4⟩:=Kd.S_slice HOx4.out
   (first | subst eox4 | (injection eox4 with f1_ f2_ f3_;have fz1:=f1_.symm;have fz2:=f3_.symm;clear f1_ f2_ f3_;subst fz1;subst fz2))
   refine hK.out _ _ ⟨cK BKz4.out 0,cK BKz4.out 1,cK BKz4.out 2,cK BKz4.out 3,cK BKz4.out 4,cK BKz4.out 5,cK BKz4.out 6,cK BKz4.out 7,(bc HB.out hwx1 :)⟩ (fun hHeld => ?_)
   clear hK K
   refine nZ 35 ?_
   refine pZ 9 36 (bm 11 1023) HT_.out ?_
   refine last_ (i:=10) (N:=none) #[true,true,true,true,true,true,true,true,true,true,true] rfl rfl (one_of HT_.out (by kernel_rfl)) (by decide) (fun K hK => ?_)
   have hsx1:wx3.cell? ⟨gbz4,2,none⟩=some (u116002):=(blk_cell BKz4.out 2).trans rfl
   have hfsx1:=blk_frozen BKz4.out 2
   have hnsx1:=nB NBz7 NBz9
   have hnsx3:=NBz11.out
   have hmsx1:=NBz8.out
   have hmsx2:=NBz10.out
   have hmsx3:=NBz12.out
   refine skip_ (w1:=?_) (by rfl) rfl ?_ ?_
   rotate_left
   ·go_simp
    rfl
   refine hK.out _ _ ?_
   clear hK K
   refine done_ (done_of HT_.out (by kernel_rfl)) ?_
   try go_wp2
   go_roundg k1
   case measure=>have:=HKy1.out;omega
   case rel=>exact⟨(wrap64 (x9_1+1)),(y128),(.slice Aox4 y128.length cox4),rS,H',⟨by have:=HKy1.out;omega⟩,⟨(Kd.R_mono (rF HO_y1.out BKz4.out) (fun _ hk=>trivial))⟩,⟨by (with_reducible repeat (first | apply Kd.S_alloc | apply Kd.S_drewN | apply Kd.S_drew));exact Kd.S_mono (sF HO_y2.out BKz4.out) (fun _ hk=>hk)⟩,⟨(Kd.R_mono (rF HO_y3.out BKz4.out) (fun _ hk=>trivial))⟩,⟨by (with_reducible repeat (first | apply Kd.S_alloc | apply Kd.S_drewN | apply Kd.S_drew));exact Kd.S_mono (sF HO_y4.out BKz4.out) (fun _ hk=>hk)⟩,⟨by (with_reducible repeat (first | apply Kd.S_alloc | apply Kd.S_drewN | apply Kd.S_drew));exact Kd.S_mono (sF HOx4.out BKz4.out) (fun _ hk=>trivial)⟩,⟨(Kd.R_mono (rF HO_y6.out BKz4.out) (fun _ hk=>trivial))⟩,⟨(bF BKz1.out)⟩,⟨(bF BKz2.out)⟩,⟨(bF BKz3.out)⟩,⟨(bP BKz4.out)⟩,⟨(hX HB.out)⟩⟩
end Go.Proofs.YthejoblnfpaojaaGreat.P
