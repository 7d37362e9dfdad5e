/- A part of the proof of the law FnStarts: texts of this seat, merged (words, printed functions of the program, plain lemmas). Conditions: none of its own. -/
import Derived.Test.YthejoblnfpaojaaGreatPkFnStarts27
import Derived.Test.YthejoblnfpaojaaGreatPkFnStarts28
set_option linter.unusedSimpArgs false
set_option linter.unusedVariables false
set_option maxHeartbeats 8000000
set_option maxRecDepth 100000
namespace Go.Proofs.YthejoblnfpaojaaGreat.P
open Go.Proofs.YthejoblnfpaojaaGreatZ Go.RowKit Go.Proofs.YthejoblnfpaojaaGreatW.PrintWords Go.Proofs.YthejoblnfpaojaaGreatW.PrintLast Go.Proofs.YthejoblnfpaojaaGreatW.PrintMore
attribute [local go_sem] max2_int min2_int max_two min_two max_three min_three max_four min_four   -- for this text's walks alone
def X9.j0:Nat→Bool→List Int→Int→Int→Int→Int→Int→List Int→Option (Bool)
 | 0,_,_,_,_,_,_,_,_=>none
 | k+1,x16,x102000,x102001,x103000,x103001,x103002,x104000,x104001=>if x16=true then (some false) else (if x104000=0 then ((Xn.f k x102000 x102001 x103000 x103001 x103002).bind fun bt106=>(if bt106.2=true then ((slices_Equal_int_int.f k bt106.1 x104001).bind fun t110=>(some t110)) else (some false))) else (if (x104001.length:Int)=0 then ((XB.f k x102000 x102001 x103000 x103001 x103002 x104000).bind fun t111=>(some t111)) else (some false)))
def X9.f (k:Nat) (l0_0:List Int) (a0_1:Int) (a1_0:Int) (a1_1:Int) (a1_2:Int) (a2_0:Int) (l2_1:List Int):Option (Bool):=(XP.f k l0_0 a0_1).bind fun t104=>(if t104=true then ((Xx.f k a1_0 a1_1 a1_2).bind fun t105=>(X9.j0 k (!t105) l0_0 a0_1 a1_0 a1_1 a1_2 a2_0 l2_1)) else (X9.j0 k true l0_0 a0_1 a1_0 a1_1 a1_2 a2_0 l2_1))
theorem X9.calls (k:Nat) (A0_0:Option Addr) (c0_0:Nat) (l0_0:List Int) (a0_1:Int) (a1_0:Int) (a1_1:Int) (a1_2:Int) (a2_0:Int) (A2_1:Option Addr) (c2_1:Nat) (l2_1:List Int) (r:Bool) (w:World) (h0_0:Rw (Kd.int .i64) w A0_0 c0_0 l0_0) (h2_1:Rw (Kd.int .i64) w A2_1 c2_1 l2_1) (H:X9.f k l0_0 a0_1 a1_0 a1_1 a1_2 a2_0 l2_1=some r) :
  Calls Tryz.prog 86 #[.agg #[.slice A0_0 l0_0.length c0_0,.int .i64 a0_1],.agg #[.int .i64 a1_0,.int .i64 a1_1,.int .i64 a1_2],.agg #[.int .i64 a2_0,.slice A2_1 l2_1.length c2_1]] w fun e w'=>e = .returned (.bool r)∧Below w.heap.size w w':=by
 have hu26:=Tryz.underlying26
 have hu78:=Tryz.underlying78
 have hu56:=Tryz.underlying56
 obtain⟨HR0_0,HC0_0⟩:=h0_0
 obtain⟨HR2_1,HC2_1⟩:=h2_1
 have HB:=aM (Below.refl w.heap.size w)
 unfold X9.f at H
 have HC4:=aM H
 clear H
 go_enter Tryz.func86,Tryz.ntmps86
 go_upto_region 1 with(first | ((with_reducible refine gate_dst (N:=3) rfl ?_);refine boxE 3 #[.slice A0_0 l0_0.length c0_0,.int .i64 a0_1] 26 ?_;intro gbz1 hg wz1 hbox hb;have BKz1:=aM (hbox);have GWz1:=aG hg HB;replace HB:=aS HB hb;clear hb hbox hg) | ((with_reducible refine gate_dst (N:=4) rfl ?_);refine boxE 4 #[.int .i64 a1_0,.int .i64 a1_1,.int .i64 a1_2] 78 ?_;intro gbz2 hg wz2 hbox hb;have BKz2:=aM (hbox);have GWz2:=aG hg HB;have NBz1:=aL hg BKz1;have NBz2:=aR hg BKz1;replace BKz1:=aB BKz1 hb;replace HB:=aS HB hb;clear hb hbox hg) | ((with_reducible refine gate_dst (N:=5) rfl ?_);refine boxE 5 #[.int .i64 a2_0,.slice A2_1 l2_1.length c2_1] 56 ?_;intro gbz3 hg wz3 hbox hb;have BKz3:=aM (hbox);have GWz3:=aG hg HB;have NBz3:=aL hg BKz1;have NBz4:=aR hg BKz1;have NBz5:=aL hg BKz2;have NBz6:=aR hg BKz2;replace BKz1:=aB BKz1 hb;replace BKz2:=aB BKz2 hb;replace HB:=aS HB hb;clear hb hbox hg))
 (try simp only[Act.put,List.setIfInBounds_toArray,List.set_cons_zero,List.set_cons_succ])
 go_cut [16] (fun vz1 wc=>∃ (kq:Nat) (x16_3:Bool),vz1 = .bool x16_3∧Aside0 (X9.j0 kq x16_3 l0_0 a0_1 a1_0 a1_1 a1_2 a2_0 l2_1=some r)∧Aside0 (kq≤k)∧Aside0 (wc.heap[gbz1]? = some (.cells #[(.slice A0_0 l0_0.length c0_0),.int .i64 a0_1] 26 (0,0)))∧Aside0 (wc.heap[gbz2]? = some (.cells #[.int .i64 a1_0,.int .i64 a1_1,.int .i64 a1_2] 78 (0,0)))∧Aside0 (wc.heap[gbz3]? = some (.cells #[.int .i64 a2_0,(.slice A2_1 l2_1.length c2_1)] 56 (0,0)))∧Aside0 (Below w.heap.size w wc))
 case first =>
  have H:=HC4.out
  clear HC4
  replace H:=bE H;obtain⟨t104,A8,H⟩:=H
  cases t104
  case false =>
   rw[if_neg nft] at H
   have H':=aM H
   clear H
   have hnby1:=NBz1.out
   have hncy1:=NBz2.out
   have hnby2:=NBz3.out
   have hncy2:=NBz4.out
   have hczy1:=cZ2 BKz1.out
   go_wp2_with (refine gB 64 10 Tryz.func64 (XP.calls _ _ _ _ _ _ _ (rW HR0_0 HB HC0_0) A8.out) ?_;intro wy1 hb;replace BKz1:=aB BKz1 hb;replace BKz2:=aB BKz2 hb;replace BKz3:=aB BKz3 hb;replace HB:=aS HB hb;clear hb)
   go_meet
   case rel=>exact⟨_,(true),rS,H',⟨by first | omega | exact Nat.le_refl _⟩,⟨(bX BKz1.out)⟩,⟨(bX BKz2.out)⟩,⟨(bX BKz3.out)⟩,⟨(hX HB.out)⟩⟩
  rw[if_pos rfl] at H
  replace H:=bE H;obtain⟨t105,A10,H⟩:=H
  have H':=aM H
  clear H
  have hnby1:=NBz1.out
  have hncy1:=NBz2.out
  have hnby2:=NBz3.out
  have hncy2:=NBz4.out
  have hczy1:=cZ2 BKz1.out
  go_wp2_with (first | (refine gB 64 10 Tryz.func64 (XP.calls _ _ _ _ _ _ _ (rW HR0_0 HB HC0_0) A8.out) ?_;intro wy1 hb;replace BKz1:=aB BKz1 hb;replace BKz2:=aB BKz2 hb;replace BKz3:=aB BKz3 hb;replace HB:=aS HB hb;clear hb;have hnby3:=nB NBz5 NBz6;have hczy3:=cZ3 BKz2.out) | (go_at_call 90;(with_reducible refine(Xx.calls _ _ _ _ _ _ A10.out).mono ?_);rintro e wy2 ⟨rfl,hb⟩;replace BKz1:=aB BKz1 hb;replace BKz2:=aB BKz2 hb;replace BKz3:=aB BKz3 hb;replace HB:=aS HB hb;clear hb))
  go_meet
  case rel=>exact⟨_,(!t105),rS,H',⟨by first | omega | exact Nat.le_refl _⟩,⟨(bX BKz1.out)⟩,⟨(bX BKz2.out)⟩,⟨(bX BKz3.out)⟩,⟨(hX HB.out)⟩⟩
 case rest =>
  clear HC4
  obtain⟨kq,x16_3,rfl,HA,HJy1,BKz1,BKz2,BKz3,HB⟩:=hcut
  cases kq with
  | zero=>exact absurd HA.out (by simp[X9.j0])
  | succ kj3 =>
   have H:=HA.out
   clear HA
   simp only[X9.j0] at H
   cases x16_3
   case true =>
    rw[if_pos rfl] at H
    exact fR
   rw[if_neg nft] at H
   revert H;refine eN ?_ ?_<;>intro c23b0 c23b1 H
   ·by_cases c43:(l2_1.length:Int)=0
    case neg =>
     rw[if_neg c43] at H
     obtain⟨c43b0,c43b1⟩:=eqF c43
     have c43b2:¬ (l2_1=[]):=fun h_=>c43 (by rw[h_];rfl)
     obtain rfl:=sI H
     have hnbx1:=NBz4.out
     have hncx1:=NBz3.out
     have hnbx2:=NBz6.out
     have hncx2:=NBz5.out
     have hczx1:=cZ2 BKz3.out
     exact fS
    rw[if_pos c43] at H
    obtain⟨c43b0,c43b1⟩:=eqT c43
    clear c43
    replace H:=bE H;obtain⟨t111,A44,H⟩:=H
    obtain rfl:=sI H
    have hnbx1:=NBz4.out
    have hncx1:=NBz3.out
    have hnbx2:=NBz6.out
    have hncx2:=NBz5.out
    have hczx1:=cZ2 BKz3.out
    have hnbx3:=NBz1.out
    have hncx3:=NBz2.out
    have hczx3:=cZ2 BKz1.out
    have hczx5:=cZ3 BKz2.out
    go_wp2_with (go_at_call 150;(with_reducible refine(XB.calls _ _ _ _ _ _ _ _ _ _ _ (rW HR0_0 HB HC0_0) A44.out).mono ?_);rintro e wx1 ⟨rfl,hb⟩;replace BKz1:=aB BKz1 hb;replace BKz2:=aB BKz2 hb;replace BKz3:=aB BKz3 hb;replace HB:=aS HB hb;clear hb)
    go_ret
    exact⟨rE,(hX HB.out)⟩
   replace H:=bE H;obtain⟨⟨t106,t109⟩,A24,H⟩:=H
   try dsimp only at H
   cases t109
   case false =>
    rw[if_neg nft] at H
    obtain rfl:=sI H
    have hnbx1:=NBz4.out
    have hncx1:=NBz3.out
    have hnbx2:=NBz6.out
    have hncx2:=NBz5.out
    have hczx1:=cZ2 BKz3.out
    have hnbx3:=NBz1.out
    have hncx3:=NBz2.out
    have hczx3:=cZ2 BKz1.out
    have hczx5:=cZ3 BKz2.out
    go_wp2_with (refine goesM 151 34 Tryz.func151 #[.agg #[.slice A0_0 l0_0.length c0_0,.int .i64 a0_1],.agg #[.int .i64 a1_0,.int .i64 a1_1,.int .i64 a1_2]] ?_;refine(Xn.calls kj3 (fun k_=>k_<w.heap.size) _ _ l0_0 a0_1 a1_0 a1_1 a1_2 t106 false _ (by exact Kd.V_mk HC0_0.out (Kd.F_below (Kd.C_F (Kd.heap_int .i64) HR0_0.out) (hX HB.out))) A24.out).mono ?_;rintro e wx1 ⟨vx1,rfl,hox1,hb⟩;refine⟨_,rfl,?_⟩;have HOx1:=aM (Kd.V_lower (Kd.V_mono (ok':=fun k_=>k_ ≠ gbz1∧k_ ≠ gbz2∧k_ ≠ gbz3) hox1 (fun k_ hk_=>⟨Or.elim hk_ (fun hs_=>fun e_=>Nat.not_le.2 hs_ (by rw[e_];exact GWz1.out)) (fun hn_=>(Kd.freshB (g:=gbz1) (o:=.cells #[.slice A0_0 l0_0.length c0_0,.int .i64 a0_1] 26 (0,0)) (bX BKz1.out) k_ hn_)),Or.elim hk_ (fun hs_=>fun e_=>Nat.not_le.2 hs_ (by rw[e_];exact GWz2.out)) (fun hn_=>(Kd.freshB (g:=gbz2) (o:=.cells #[.int .i64 a1_0,.int .i64 a1_1,.int .i64 a1_2] 78 (0,0)) (bX BKz2.out) k_ hn_)),Or.elim hk_ (fun hs_=>fun e_=>Nat.not_le.2 hs_ (by rw[e_];exact GWz3.out)) (fun hn_=>(Kd.freshB (g:=gbz3) (o:=.cells #[.int .i64 a2_0,.slice A2_1 l2_1.length c2_1] 56 (0,0)) (bX BKz3.out) k_ hn_))⟩)) (below_size (hX HB.out)));replace BKz1:=aB BKz1 hb;replace BKz2:=aB BKz2 hb;replace BKz3:=aB BKz3 hb;replace HB:=aS HB hb;clear hb hox1)
    go_ret
    exact⟨rE,(hX HB.out)⟩
   rw[if_pos rfl] at H
   replace H:=bE H;obtain⟨t110,A26,H⟩:=H
   obtain rfl:=sI H
   have hnbx1:=NBz4.out
   have hncx1:=NBz3.out
   have hnbx2:=NBz6.out
   have hncx2:=NBz5.out
   have hczx1:=cZ2 BKz3.out
   have hnbx3:=NBz1.out
   have hncx3:=NBz2.out
   have hczx3:=cZ2 BKz1.out
   have hczx5:=cZ3 BKz2.out
   go_wp2_with (first | (refine goesM 151 34 Tryz.func151 #[.agg #[.slice A0_0 l0_0.length c0_0,.int .i64 a0_1],.agg #[.int .i64 a1_0,.int .i64 a1_1,.int .i64 a1_2]] ?_;refine(Xn.calls kj3 (fun k_=>k_<w.heap.size) _ _ l0_0 a0_1 a1_0 a1_1 a1_2 t106 true _ (by exact Kd.V_mk HC0_0.out (Kd.F_below (Kd.C_F (Kd.heap_int .i64) HR0_0.out) (hX HB.out))) A24.out).mono ?_;rintro e wx1 ⟨vx1,rfl,hox1,hb⟩;refine⟨_,rfl,?_⟩;have HOx1:=aM (Kd.V_lower (Kd.V_mono (ok':=fun k_=>k_ ≠ gbz1∧k_ ≠ gbz2∧k_ ≠ gbz3) hox1 (fun k_ hk_=>⟨Or.elim hk_ (fun hs_=>fun e_=>Nat.not_le.2 hs_ (by rw[e_];exact GWz1.out)) (fun hn_=>(Kd.freshB (g:=gbz1) (o:=.cells #[.slice A0_0 l0_0.length c0_0,.int .i64 a0_1] 26 (0,0)) (bX BKz1.out) k_ hn_)),Or.elim hk_ (fun hs_=>fun e_=>Nat.not_le.2 hs_ (by rw[e_];exact GWz2.out)) (fun hn_=>(Kd.freshB (g:=gbz2) (o:=.cells #[.int .i64 a1_0,.int .i64 a1_1,.int .i64 a1_2] 78 (0,0)) (bX BKz2.out) k_ hn_)),Or.elim hk_ (fun hs_=>fun e_=>Nat.not_le.2 hs_ (by rw[e_];exact GWz3.out)) (fun hn_=>(Kd.freshB (g:=gbz3) (o:=.cells #[.int .i64 a2_0,.slice A2_1 l2_1.length c2_1] 56 (0,0)) (bX BKz3.out) k_ hn_))⟩)) (below_size (hX HB.out)));replace BKz1:=aB BKz1 hb;replace BKz2:=aB BKz2 hb;replace BKz3:=aB BKz3 hb;replace HB:=aS HB hb;clear hb hox1;have hczx8:=cZ2 BKz3.out;obtain⟨Aox1,cox1,eox1⟩:=Kd.V_slice HOx1.out;subst eox1) | (go_at_call 135;(with_reducible refine(slices_Equal_int_int.calls _ _ _ _ _ _ _ _ _ (cX (Kd.V_reads' HOx1.out).2.2) ((Kd.V_reads' HOx1.out).2.1) (cC HR2_1.out HB.out) HC2_1.out A26.out).mono ?_);rintro e w' ⟨rfl,⟨nd,rfl⟩⟩))
   go_ret
   exact⟨rE,(hX HB.out)⟩
def XaK.f (k:Nat) (s0_0:List Int) (s0_1:Int) (s0_2:Int):Option (List Int × Int × Int × Int):=(XD.f k s0_0 s0_1 s0_2).bind fun bt102=>((Xj.f s0_0 bt102.2.2.1 bt102.2.2.2 8).bind fun bt109=>(if bt109.1=0 then ((XT.f s0_0 bt109.2.1 bt109.2.2 (([(-1),6,7]:List Int))).bind fun bt115=>(if 1<(bt102.1.length:Int) then (some ((bt102.1.set (1:Int).toNat bt115.1),bt102.2.1,bt115.2.1,bt115.2.2)) else (none))) else (if bt109.1=1 then (if 0<(bt102.1.length:Int) then (if 3<(bt102.1.length:Int) then (some (((bt102.1.set (0:Int).toNat 3).set (3:Int).toNat 3),bt102.2.1,bt109.2.1,bt109.2.2)) else (none)) else (none)) else (if bt109.1=2 then ((XT.f s0_0 bt109.2.1 bt109.2.2 (([(-1),5,6]:List Int))).bind fun bt124=>(some (bt102.1,bt124.1,bt124.2.1,bt124.2.2))) else (if bt109.1=3 then (if 2≤(bt102.1.length:Int) then (some ((bt102.1.take (2:Int).toNat),bt102.2.1,bt109.2.1,bt109.2.2)) else (none)) else (some (bt102.1,bt102.2.1,bt109.2.1,bt109.2.2)))))))
theorem XaK.calls (k:Nat) (g:Nat) (s0_0:List Int) (s0_1:Int) (s0_2:Int) (r1:List Int) (r2:Int) (r3:Int) (r4:Int) (w0 w:World) (hI:IsS146 w0 w g s0_0 s0_1 s0_2) (hB:Below w0.heap.size w0 w) (h:XaK.f k s0_0 s0_1 s0_2=some (r1,r2,r3,r4)) :
  Calls Tryz.prog 74 #[.pointer (some ⟨g,0,none⟩)] w fun e w'=>∃ v0_:Value,e = .returned (.agg #[v0_,.int .i64 r2])∧Kd.R (Kd.int .i64) 3 w' w.heap.size (fun _=>True) v0_ r1∧IsS146 w0 w' g s0_0 r3 r4∧Below w0.heap.size w0 w'∧KeepBut w w' g none:=by
 have hu26:=Tryz.underlying26
 have HI0:=aM hI
 have HK:=aM (KeepBut.refl w g none)
 have HL:=aM hB.size
 clear hI
 have HW0:=aM hB.size
 have HB:=aM hB
 clear hB
 have H:=h
 unfold XaK.f at H
 clear h
 replace H:=bE H;obtain⟨⟨t102,t105,t106,t107⟩,A2,H⟩:=H
 try dsimp only at H
 replace H:=bE H;obtain⟨⟨t109,t110,t111⟩,A3,H⟩:=H
 try dsimp only at H
 go_enter Tryz.func74,Tryz.ntmps74
 go_wp2_with (first | (refine boxE 2 #[.slice none 0 0,.int .i64 0] 26 ?_;intro gbz1 hg wz1 hbox hb;have BKz1:=aM (hbox);have GWz1:=aM ((by rw[hg];exact(keep_size (w:=w) (g:=g) (row:=none) (kX HK.out)):w.heap.size≤gbz1));have GEz1:=aM ((Nat.le_trans HW0.out (by rw[hg];exact(keep_size (w:=w) (g:=g) (row:=none) (kX HK.out)):w.heap.size≤gbz1):w0.heap.size≤gbz1));have NBz1:=aM ((by rw[hg];exact Nat.ne_of_lt (IsS146.lt (show IsS146 w0 _ g s0_0 s0_1 s0_2 from (i146 HI0.out))):g ≠ gbz1));have NBz2:=aM ((by rw[hg];exact Nat.ne_of_gt (IsS146.lt (show IsS146 w0 _ g s0_0 s0_1 s0_2 from (i146 HI0.out))):gbz1 ≠ g));replace HK:=aM (KeepBut.trans (kX HK.out) (KeepBut.of_below hb g none) (.inl rfl));replace HB:=aM (below_step (hY HB.out (IsS146.ge HI0.out)) hb);replace HI0:=aM (IsS146.below (i146 HI0.out) hb);clear hb hbox hg) | (refine goesM 141 5 Tryz.func141 #[.pointer (some ⟨g,0,none⟩)] ?_;refine(XD.calls k g s0_0 s0_1 s0_2 t102 t105 t106 t107 w0 _ (by repeat (first | (with_reducible first | exact HI0.out | apply IsS146.alloc | apply IsS146.drewN | apply IsS146.drew | apply IsS146.set_1 | apply IsS146.set_2 | refine IsS146.far ?_ NBz1.out _) | exact HI0.out)) (by repeat (first | (with_reducible first | exact HB.out | apply below_alloc | apply pw_below_drewN | apply below_drew1 | refine below_set ?_ (IsS146.ge HI0.out) | refine below_set ?_ GEz1.out) | exact HB.out)) A2.out).mono ?_;rintro e wz2 ⟨vz1,rfl,hoz1,hi,hb,hk⟩;refine⟨_,rfl,?_⟩;have HOz1:=aM (Kd.R_lower hoz1 (keep_size (w:=w) (g:=g) (row:=none) (kX HK.out)));replace BKz1:=aM (KeepBut.blk hk (g':=gbz1) (o:=.cells #[.slice none 0 0,.int .i64 0] 26 (0,0)) (bX BKz1.out) NBz2.out (by simp));replace HK:=aM (KeepBut.trans (kX HK.out) hk (.inl rfl));replace HB:=aM (hb);replace HI0:=aM (hi);clear hb hk hi hoz1) | (refine boxE 3 #[.slice none 0 0,.int .i64 0] 26 ?_;intro gbz2 hg wz3 hbox hb;have BKz2:=aM (hbox);have GWz2:=aM ((by rw[hg];exact(keep_size (w:=w) (g:=g) (row:=none) (kX HK.out)):w.heap.size≤gbz2));have GEz2:=aM ((Nat.le_trans HW0.out (by rw[hg];exact(keep_size (w:=w) (g:=g) (row:=none) (kX HK.out)):w.heap.size≤gbz2):w0.heap.size≤gbz2));have NBz3:=aL hg BKz1;have NBz4:=aR hg BKz1;have NBz5:=aM ((by rw[hg];exact Nat.ne_of_lt (IsS146.lt (show IsS146 w0 _ g s0_0 t106 t107 from (i146 HI0.out))):g ≠ gbz2));have NBz6:=aM ((by rw[hg];exact Nat.ne_of_gt (IsS146.lt (show IsS146 w0 _ g s0_0 t106 t107 from (i146 HI0.out))):gbz2 ≠ g));replace HOz1:=aQ HOz1 hb;replace BKz1:=aB BKz1 hb;replace HK:=aM (KeepBut.trans (kX HK.out) (KeepBut.of_below hb g none) (.inl rfl));replace HB:=aM (below_step (hY HB.out (IsS146.ge HI0.out)) hb);replace HI0:=aM (IsS146.below (i146 HI0.out) hb);clear hb hbox hg;obtain⟨Aoz1,coz1,eoz1⟩:=Kd.R_slice HOz1.out;subst eoz1;have hnbz1:=nB NBz4 NBz3;have hnbz2:=nB NBz6 NBz5;have hczz1:=cZ2 BKz2.out;refine Stop.out ?_))
 refine⟨?_⟩
 revert H;refine eP ?_ ?_<;>intro c4b0 c4b1 H
 ·obtain⟨y112,hy112⟩:∃ y_:List Int,y_=(([(-1),6,7]:List Int)):=⟨_,rfl⟩
  replace H:((XT.f s0_0 t110 t111 y112).bind fun bt115=>(if 1<(t102.length:Int) then (some ((t102.set (1:Int).toNat bt115.1),t105,bt115.2.1,bt115.2.2)) else (none)))=some (r1,r2,r3,r4):=yH H hy112
  have Ny112:=aM hy112
  clear hy112
  replace H:=bE H;obtain⟨⟨t115,t116,t117⟩,A5,H⟩:=H
  try dsimp only at H
  replace H:=ifP H;obtain⟨c6,H⟩:=H
  have c6b0:=decide_eq_true c6
  have c6b1:decide (1<t102.length)=true:=decide_eq_true (by omega)
  clear c6
  obtain⟨y118,hy118⟩:∃ y_:List Int,y_=(t102.set (1:Int).toNat t115):=⟨_,rfl⟩
  replace H:(some (y118,t105,t116,t117))=some (r1,r2,r3,r4):=yH H hy118
  have Ny118:=aM hy118
  clear hy118
  simp only[Option.some.injEq,Prod.mk.injEq] at H
  obtain⟨rfl,rfl,rfl,rfl⟩:=H
  try go_wp2_with (refine goesM 76 7 Tryz.func76 #[.pointer (some ⟨g,0,none⟩),.int .i64 8] ?_;refine(Xj.calls g s0_0 t106 t107 8 t109 t110 t111 w0 _ (by repeat (first | (with_reducible first | exact HI0.out | apply IsS146.alloc | apply IsS146.drewN | apply IsS146.drew | apply IsS146.set_1 | apply IsS146.set_2 | refine IsS146.far ?_ NBz1.out _ | refine IsS146.far ?_ NBz5.out _) | exact HI0.out)) (by repeat (first | (with_reducible first | exact HB.out | apply below_alloc | apply pw_below_drewN | apply below_drew1 | refine below_set ?_ (IsS146.ge HI0.out) | refine below_set ?_ GEz1.out | refine below_set ?_ GEz2.out) | exact HB.out)) A3.out).mono ?_;rintro e wz4 ⟨rfl,hi,hb,hk⟩;refine⟨_,rfl,?_⟩;replace BKz1:=aM (KeepBut.blk hk (g':=gbz1) (o:=.cells #[.slice none 0 0,.int .i64 0] 26 (0,0)) (bF BKz1.out) NBz2.out (by simp));replace HOz1:=aM (Kd.R_mono (Kd.R_keep (IsS146.apart (show IsS146 w0 _ g s0_0 t106 t107 from (i146 HI0.out)) (rF HOz1.out BKz2.out) (by decide)) hk (fun _ h=>h.2)) (fun _ h=>h.1));replace BKz2:=aM (KeepBut.blk hk (g':=gbz2) (o:=.cells #[.slice Aoz1 t102.length coz1,.int .i64 t105] 26 (0,0)) (bP BKz2.out) NBz6.out (by simp));replace HK:=aM (KeepBut.trans (kX HK.out) hk (.inl rfl));replace HB:=aM (hb);replace HI0:=aM (hi);clear hb hk hi)
  replace HOz1:=aM (Kd.R_drew HOz1.out)
  replace BKz1:=aM (blk_drew BKz1.out)
  replace BKz2:=aM (blk_drew BKz2.out)
  replace HI0:=aM (IsS146.drew HI0.out)
  replace HK:=aM (keep_drew HK.out)
  replace HB:=aM (below_drew1 HB.out)
  refine start_ (n:=7) (S:=fun w'=>w'.cell? ⟨gbz2,0,none⟩=some (.slice Aoz1 t102.length coz1)∧w'.cell? ⟨gbz2,1,none⟩=some (.int .i64 t105)) (ds:=[6]) (bm 7 0) (by kernel_rfl) rfl (by kernel_rfl) ⟨cK BKz2.out 0,cK BKz2.out 1⟩ (fun hHeld => ?_)
  generalize wz4.drew=wz5 at HOz1 BKz1 BKz2 HI0 HK HB hHeld ⊢
  refine pK 0 10 (bm 7 1) ?_
  refine pK 2 12 (bm 7 5) ?_
  refine tK 1 11 (bm 7 7) hHeld ?_
  refine oK 3 (some 13) (bm 7 15) (fun K hK => ?_)
  refine Kd.R_lit_step (Kd.int .i64) _ 3 ?hg (N:=13) ?hd (xs:=([(-1),6,7]:List Int)) (inner:=[.int .i64 (-1),.int .i64 6,.int .i64 7]) (ok:=fun _=>True) (okp:=fun _=>True) ?hr ?hp (fun _ hk=>hk) trivial (Below.refl _ _) (Nat.le_refl _) (by simp) ?_;(case hd=>rfl);(case hg=>rfl);(case hr=>first | (go_simp;done) | (go_simp;rfl));(case hp=>exact(Reps.one (show Kd.M (Kd.int .i64) _ _ _ (-1) [.int .i64 (-1)] from rfl) (Reps.one (show Kd.M (Kd.int .i64) _ _ _ 6 [.int .i64 6] from rfl) (Reps.one (show Kd.M (Kd.int .i64) _ _ _ 7 [.int .i64 7] from rfl) (Reps.none _ _)))))
  intro vz2 wz6 hoz2 hb hg_ hnew_
  clear hg_ hnew_
  (first | rw[← Ny112.out] at hoz2 | (simp only[Int.reduceToNat] at hoz2;rw[← Ny112.out] at hoz2))
  have HOz2:=aM (Kd.R_lower (Kd.R_new' hoz2 (Kd.R_lt (rX HOz1.out))) (keep_size (w:=w) (g:=g) (row:=none) (kX HK.out)))
  replace HOz1:=aM (Kd.R_elder' (rX HOz1.out) (Kd.R_base hoz2) hb)
  replace BKz1:=aB BKz1 hb
  replace BKz2:=aB BKz2 hb
  replace HK:=aM (KeepBut.trans (kX HK.out) (KeepBut.of_below hb g none) (.inl rfl))
  replace HB:=aM (below_step (hY HB.out (IsS146.ge HI0.out)) hb)
  replace HI0:=aM (IsS146.below (i146 HI0.out) hb)
  clear hb hoz2
  obtain⟨Aoz2,coz2,eoz2⟩:=Kd.R_slice HOz2.out
  (first | subst eoz2 | (injection eoz2 with f1_ f2_ f3_;have fz1:=f1_.symm;have fz2:=f3_.symm;clear f1_ f2_ f3_;subst fz1;subst fz2))
  refine hK.out _ _ ⟨cK BKz2.out 0,cK BKz2.out 1⟩ (fun hHeld => ?_)
  clear hK K
  refine nZ 13 ?_
  refine oK 4 (some 14) (bm 7 31) (fun K hK => ?_)
  refine goesN Tryz.func97 #[.pointer (some ⟨g,0,none⟩),.slice Aoz2 y112.length coz2] ?_
  with_reducible refine(XT.calls g s0_0 t110 t111 _ _ y112 t115 t116 t117 w0 _ ?side1 ?side2 (rw2 ?side3 ?side4) ?side5 A5.out).mono ?_
  (case side1=>repeat (first | (with_reducible first | exact HI0.out | apply IsS146.alloc | apply IsS146.drewN | apply IsS146.drew | apply IsS146.set_1 | apply IsS146.set_2 | refine IsS146.far ?_ NBz1.out _ | refine IsS146.far ?_ NBz5.out _) | exact HI0.out))
  (case side2=>repeat (first | (with_reducible first | exact HB.out | apply below_alloc | apply pw_below_drewN | apply below_drew1 | refine below_set ?_ (IsS146.ge HI0.out) | refine below_set ?_ GEz1.out | refine below_set ?_ GEz2.out) | exact HB.out))
  (case side3=>repeat (first | exact(Kd.R_reads' HOz2.out).2.2 | (with_reducible refine Kd.C_alloc ?_ _) | (with_reducible refine Kd.C_drewN ?_ _) | (with_reducible refine Kd.C_drew ?_)))
  (case side4=>exact(Kd.R_reads' HOz2.out).2.1)
  (case side5=>exact far_slice (IsS146.own_ne HI0.out HOz2.out (by decide)))
  rintro e wz7 ⟨rfl,hi,hb,hk⟩
  refine⟨_,rfl,?_⟩
  replace BKz1:=aM (KeepBut.blk hk (g':=gbz1) (o:=.cells #[.slice none 0 0,.int .i64 0] 26 (0,0)) (bX BKz1.out) NBz2.out (by simp))
  replace HOz1:=aM (Kd.R_mono (Kd.R_keep (IsS146.apart (show IsS146 w0 _ g s0_0 t110 t111 from (i146 HI0.out)) (rX HOz1.out) (by decide)) hk (fun _ h=>h.2)) (fun _ h=>h.1))
  replace BKz2:=aM (KeepBut.blk hk (g':=gbz2) (o:=.cells #[.slice Aoz1 t102.length coz1,.int .i64 t105] 26 (0,0)) (bX BKz2.out) NBz6.out (by simp))
  replace HOz2:=aM (Kd.R_mono (Kd.R_keep (IsS146.apart (show IsS146 w0 _ g s0_0 t110 t111 from (i146 HI0.out)) (rX HOz2.out) (by decide)) hk (fun _ h=>h.2)) (fun _ h=>h.1))
  replace HK:=aM (KeepBut.trans (kX HK.out) hk (.inl rfl))
  replace HB:=aM (hb)
  replace HI0:=aM (hi)
  (try clear hb)
  (try clear hk)
  (try clear hi)
  have pz1:0≤(1:Int):=(by omega)
  have qz1:(1:Int)<((t102.length:Int):Int):=odA
  have qiz1:(1<t102.length)=True:=eq_true (by omega)
  obtain⟨goz1,coz3,eoz3,gbz3,glz1,clz1,HGz1⟩:=Kd.R_form HOz1.out (by omega)
  (first | cases eoz3 | (injection eoz3 with ea_ en_ ec_;(first | subst ea_ | (injection ea_ with ea_;subst ea_));subst ec_;clear en_))
  have GBz1:=aM gbz3
  have GGz1:=aM HGz1
  clear gbz3 glz1 HGz1
  obtain⟨hxz1,hfz1⟩:=Kd.R_celln 0 HOz1.out (1:Int) pz1 qz1
  (try rw[show ((1:Int)).toNat=1 from rfl] at hxz1)
  (try simp only[Nat.reduceMul,Nat.zero_mul,Nat.zero_add,Nat.reduceAdd] at hxz1)
  (try rw[show ((1:Int)).toNat=1 from rfl] at hfz1)
  (try simp only[Nat.reduceMul,Nat.zero_mul,Nat.zero_add,Nat.reduceAdd] at hfz1)
  replace pz1:=eq_true pz1
  replace qz1:=eq_true qz1
  have HN0_go7:=aM (show g ≠ goz1 from by have h_:=IsS146.own_ne HI0.out HOz1.out (by decide);intro e_;exact h_ (by rw[e_];rfl))
  have HPz1:=Kd.R_putn HOz1.out (1:Int) t115
  rw[← Ny118.out] at HPz1
  have HQz1:=aM HPz1
  clear HPz1
  refine hK.out _ _ ⟨cK BKz2.out 0,cK BKz2.out 1⟩ (fun hHeld => ?_)
  clear hK K
  refine nZ 14 ?_
  refine pK 5 15 (bm 7 63) ?_
  refine last_ (i:=6) (N:=none) #[true,true,true,true,true,true,true] rfl rfl (by kernel_rfl) (by decide) (fun K hK => ?_)
  refine skip_ (w1:=?_) (by rfl) rfl ?_ ?_
  rotate_left
  ·go_simp
   rfl
  refine hK.out _ _ ?_
  clear hK K
  refine done_ (by kernel_rfl) ?_
  have nz1:Aside0 (Kd.R (Kd.int .i64) 3 (wz7.setCell ⟨goz1,1,none⟩ (.int .i64 t115)) w.heap.size (fun k_=>some k_ ≠ (.slice Aoz2 y112.length coz2:Value).ownBlock) (.slice (some ⟨goz1,0,none⟩) t102.length coz1) y118):=⟨(rT (h:=by exact Kd.R_mono HQz1.out (fun _ hk=>hk.2)))⟩
  have nz2:Aside0 (Kd.R (Kd.int .i64) 3 (wz7.setCell ⟨goz1,1,none⟩ (.int .i64 t115)) w.heap.size (fun k_=>some k_ ≠ (.slice (some ⟨goz1,0,none⟩) t102.length coz1:Value).ownBlock) (.slice Aoz2 y112.length coz2) y112):=⟨(rT (h:=by exact Kd.R_mono (Kd.R_far (p:=⟨goz1,1,none⟩) (Kd.R_mono HOz2.out (fun k_ hk=>(⟨hk,fun e_=>hk.2 (by rw[e_];rfl)⟩:_∧k_ ≠ goz1))) (fun _ hk=>hk.2) (.int .i64 t115)) (fun _ hk=>hk.1.2)))⟩
  have nz3:Aside0 ((wz7.setCell ⟨goz1,1,none⟩ (.int .i64 t115)).heap[gbz1]? = some (.cells #[.slice none 0 0,.int .i64 0] 26 (0,0))):=⟨by (with_reducible repeat (first | refine blk_drewN ?_ _ | refine blk_drew ?_ | refine blk_alloc ?_ _));refine blk_far ?_ (by have h_:=Kd.R_ne HOz1.out BKz1.out (by decide);intro e_;exact h_ (by rw[e_];rfl)) _;(with_reducible repeat (first | refine blk_drewN ?_ _ | refine blk_drew ?_ | refine blk_alloc ?_ _));exact BKz1.out⟩
  have nz4:Aside0 ((wz7.setCell ⟨goz1,1,none⟩ (.int .i64 t115)).heap[gbz2]? = some (.cells #[.slice (some ⟨goz1,0,none⟩) t102.length coz1,.int .i64 t105] 26 (0,0))):=⟨by (with_reducible repeat (first | refine blk_drewN ?_ _ | refine blk_drew ?_ | refine blk_alloc ?_ _));refine blk_far ?_ (by have h_:=Kd.R_ne HOz1.out BKz2.out (by decide);intro e_;exact h_ (by rw[e_];rfl)) _;(with_reducible repeat (first | refine blk_drewN ?_ _ | refine blk_drew ?_ | refine blk_alloc ?_ _));exact BKz2.out⟩
  have nz5:Aside0 (IsS146 w0 (wz7.setCell ⟨goz1,1,none⟩ (.int .i64 t115)) g s0_0 t116 t117):=⟨(i146 HI0.out)⟩
  have nz6:Aside0 (KeepBut w (wz7.setCell ⟨goz1,1,none⟩ (.int .i64 t115)) g none):=⟨(kX HK.out)⟩
  have nz7:Aside0 (Below w0.heap.size w0 (wz7.setCell ⟨goz1,1,none⟩ (.int .i64 t115))):=⟨by repeat (first | (with_reducible first | exact HB.out | apply below_alloc | apply pw_below_drewN | apply below_drew1 | refine below_set ?_ (Nat.le_trans HL.out GBz1.out) | refine below_set ?_ (IsS146.ge HI0.out) | refine below_set ?_ GEz1.out | refine below_set ?_ GEz2.out) | exact HB.out)⟩
  (try clear HOz1)
  (try clear HOz2)
  (try clear BKz1)
  (try clear BKz2)
  (try clear HI0)
  (try clear HK)
  (try clear HB)
  generalize (wz7.setCell ⟨goz1,1,none⟩ (.int .i64 t115))=wz8 at nz1 nz2 nz3 nz4 nz5 nz6 nz7 ⊢
  have HOz1:=nz1
  have HOz2:=nz2
  have BKz1:=nz3
  have BKz2:=nz4
  have HI0:=nz5
  have HK:=nz6
  have HB:=nz7
  clear nz1 nz2 nz3 nz4 nz5 nz6 nz7
  have hczz3:=cZ2 BKz2.out
  have hnbz3:=NBz2.out
  have hncz3:=NBz1.out
  have hczz5:=cZ2 BKz1.out
  try go_wp2
  refine bodyPost_ret (results_cell_row rfl _ _ gbz1 26 #[.slice (some ⟨goz1,0,none⟩) t102.length coz1,.int .i64 t105] (0,0) _ rfl (by (with_reducible repeat (first | refine blk_drewN ?_ _ | refine blk_drew ?_ | refine blk_alloc ?_ _));refine blk_put (cs:=#[.slice (some ⟨goz1,0,none⟩) t102.length coz1,.int .i64 0]) ?_ 1 _ rfl;(with_reducible repeat (first | refine blk_drewN ?_ _ | refine blk_drew ?_ | refine blk_alloc ?_ _));refine blk_put (cs:=#[.slice none 0 0,.int .i64 0]) ?_ 0 _ rfl;(with_reducible repeat (first | refine blk_drewN ?_ _ | refine blk_drew ?_ | refine blk_alloc ?_ _));exact BKz1.out) Tryz.underlying26 rfl (by kernel_rfl)) rfl ?_
  exact⟨_,rE,(Kd.R_mono (rF HOz1.out BKz1.out) (fun _ hk=>trivial)),(i146 HI0.out),(hY HB.out (IsS146.ge HI0.out)),(kX HK.out)⟩
 revert H;refine eP ?_ ?_<;>intro c26b0 c26b1 H
 ·replace H:=ifP H;obtain⟨c27,H⟩:=H
  have c27b0:=decide_eq_true c27
  have c27b1:decide (0<t102.length)=true:=decide_eq_true (by omega)
  clear c27
  obtain⟨y119,hy119⟩:∃ y_:List Int,y_=(t102.set (0:Int).toNat 3):=⟨_,rfl⟩
  replace H:(if 3<(t102.length:Int) then (some ((y119.set (3:Int).toNat 3),t105,t110,t111)) else (none))=some (r1,r2,r3,r4):=yH H hy119
  have Ny119:=aM hy119
  clear hy119
  replace H:=ifP H;obtain⟨c29,H⟩:=H
  have c29b0:=decide_eq_true c29
  have c29b1:decide (3<t102.length)=true:=decide_eq_true (by omega)
  clear c29
  obtain⟨y120,hy120⟩:∃ y_:List Int,y_=(y119.set (3:Int).toNat 3):=⟨_,rfl⟩
  replace H:(some (y120,t105,t110,t111))=some (r1,r2,r3,r4):=yH H hy120
  have Ny120:=aM hy120
  clear hy120
  simp only[Option.some.injEq,Prod.mk.injEq] at H
  obtain⟨rfl,rfl,rfl,rfl⟩:=H
  go_wp2_with (first | (refine goesM 76 7 Tryz.func76 #[.pointer (some ⟨g,0,none⟩),.int .i64 8] ?_;refine(Xj.calls g s0_0 t106 t107 8 t109 t110 t111 w0 _ (by repeat (first | (with_reducible first | exact HI0.out | apply IsS146.alloc | apply IsS146.drewN | apply IsS146.drew | apply IsS146.set_1 | apply IsS146.set_2 | refine IsS146.far ?_ NBz1.out _ | refine IsS146.far ?_ NBz5.out _) | exact HI0.out)) (by repeat (first | (with_reducible first | exact HB.out | apply below_alloc | apply pw_below_drewN | apply below_drew1 | refine below_set ?_ (IsS146.ge HI0.out) | refine below_set ?_ GEz1.out | refine below_set ?_ GEz2.out) | exact HB.out)) A3.out).mono ?_;rintro e wz4 ⟨rfl,hi,hb,hk⟩;refine⟨_,rfl,?_⟩;replace BKz1:=aM (KeepBut.blk hk (g':=gbz1) (o:=.cells #[.slice none 0 0,.int .i64 0] 26 (0,0)) (bF BKz1.out) NBz2.out (by simp));replace HOz1:=aM (Kd.R_mono (Kd.R_keep (IsS146.apart (show IsS146 w0 _ g s0_0 t106 t107 from (i146 HI0.out)) (rF HOz1.out BKz2.out) (by decide)) hk (fun _ h=>h.2)) (fun _ h=>h.1));replace BKz2:=aM (KeepBut.blk hk (g':=gbz2) (o:=.cells #[.slice Aoz1 t102.length coz1,.int .i64 t105] 26 (0,0)) (bP BKz2.out) NBz6.out (by simp));replace HK:=aM (KeepBut.trans (kX HK.out) hk (.inl rfl));replace HB:=aM (hb);replace HI0:=aM (hi);clear hb hk hi;have hczz3:=cZ2 BKz2.out;have pz1:0≤(0:Int):=(by omega);have qz1:(0:Int)<((t102.length:Int):Int):=odA;have qiz1:(0<t102.length)=True:=eq_true (by omega);obtain⟨goz1,coz2,eoz2,gbz3,glz1,clz1,HGz1⟩:=Kd.R_form HOz1.out (by omega);(first | cases eoz2 | (injection eoz2 with ea_ en_ ec_;(first | subst ea_ | (injection ea_ with ea_;subst ea_));subst ec_;clear en_));have GBz1:=aM gbz3;have GGz1:=aM HGz1;clear gbz3 glz1 HGz1;obtain⟨hxz1,hfz1⟩:=Kd.R_celln 0 HOz1.out (0:Int) pz1 qz1;(try rw[show ((0:Int)).toNat=0 from rfl] at hxz1);(try simp only[Nat.reduceMul,Nat.zero_mul,Nat.zero_add,Nat.reduceAdd] at hxz1);(try rw[show ((0:Int)).toNat=0 from rfl] at hfz1);(try simp only[Nat.reduceMul,Nat.zero_mul,Nat.zero_add,Nat.reduceAdd] at hfz1);replace pz1:=eq_true pz1;replace qz1:=eq_true qz1;obtain⟨hyz1,hzz1⟩:=Kd.R_celln 0 HOz1.out (0:Int) (by omega) (odA);(try simp only[Int.reduceToNat,Int.toNat_zero,Int.toNat_ofNat,Nat.reduceMul,Nat.zero_mul,Nat.zero_add] at hyz1 hzz1);(try rw[show ((0:Int)).toNat=0 from rfl] at hyz1);(try rw[show ((0:Int)).toNat=0 from rfl] at hzz1);have HPz1:=Kd.R_putg HOz1.out (0:Int) 3) | ((with_reducible refine gate_store (t:=3) (p:=20) rfl ?_);refine store_event (t:=3) (p:=20) (v:=?vo_wz5) (w1:=(wz4.setCell ⟨goz1,(0:Int).toNat,none⟩ (.int .i64 3))) ?hg ?ho ?hn ?hr ?_;(case ho=>rfl);(case hg=>rfl);(case hn=>rfl);(case hr=>first | (go_simp;done) | (go_simp;rfl));intro wz5 hw;have hg:wz4.grownBy wz5 (some goz1):=(by rw[hw];exact HPz1.2);have hp_:Kd.R (Kd.int .i64) 3 wz5 w.heap.size (fun _=>True) (.slice (some ⟨goz1,0,none⟩) t102.length coz1) y119:=(by rw[hw,Ny119.out];exact HPz1.1);clear HPz1;replace HI0:=aM (IsS146.grown (i146 HI0.out) hg (IsS146.own_ne HI0.out HOz1.out (by decide)));replace BKz1:=aM (blk_grown (g:=gbz1) (o:=.cells #[.slice none 0 0,.int .i64 0] 26 (0,0)) (bX BKz1.out) hg (Kd.R_ne HOz1.out BKz1.out (by decide)));replace BKz2:=aM (blk_grown (g:=gbz2) (o:=.cells #[.slice (some ⟨goz1,0,none⟩) t102.length coz1,.int .i64 t105] 26 (0,0)) (bX BKz2.out) hg (Kd.R_ne HOz1.out BKz2.out (by decide)));replace HB:=aM ((by rw[hw];exact below_set (HB.out) (Nat.le_trans HL.out GBz1.out):Below w0.heap.size w0 wz5));replace HK:=aM (KeepBut.trans (kX HK.out) (KeepBut.of_grown hg g) (Kd.R_base2 HOz1.out));replace HOz1:=aM (hp_);clear hg hw hp_;have hczz5:=cZ2 BKz2.out;have pz2:0≤(3:Int):=(by omega);have qz2:(3:Int)<((t102.length:Int):Int):=odA;have qiz2:(3<t102.length)=True:=eq_true (by omega);obtain⟨hxz2,hfz2⟩:=Kd.R_celln 0 HOz1.out (3:Int) pz2 qz2;(try rw[show ((3:Int)).toNat=3 from rfl] at hxz2);(try simp only[Nat.reduceMul,Nat.zero_mul,Nat.zero_add,Nat.reduceAdd] at hxz2);(try rw[show ((3:Int)).toNat=3 from rfl] at hfz2);(try simp only[Nat.reduceMul,Nat.zero_mul,Nat.zero_add,Nat.reduceAdd] at hfz2);replace pz2:=eq_true pz2;replace qz2:=eq_true qz2;obtain⟨hyz2,hzz2⟩:=Kd.R_celln 0 HOz1.out (3:Int) (by omega) (odA);(try simp only[Int.reduceToNat,Int.toNat_zero,Int.toNat_ofNat,Nat.reduceMul,Nat.zero_mul,Nat.zero_add] at hyz2 hzz2);(try rw[show ((3:Int)).toNat=3 from rfl] at hyz2);(try rw[show ((3:Int)).toNat=3 from rfl] at hzz2);have HPz2:=Kd.R_putg HOz1.out (3:Int) 3) | ((with_reducible refine gate_store (t:=3) (p:=23) rfl ?_);refine store_event (t:=3) (p:=23) (v:=?vo_wz6) (w1:=(wz5.setCell ⟨goz1,(3:Int).toNat,none⟩ (.int .i64 3))) ?hg ?ho ?hn ?hr ?_;(case ho=>rfl);(case hg=>rfl);(case hn=>rfl);(case hr=>first | (go_simp;done) | (go_simp;rfl));intro wz6 hw;have hg:wz5.grownBy wz6 (some goz1):=(by rw[hw];exact HPz2.2);have hp_:Kd.R (Kd.int .i64) 3 wz6 w.heap.size (fun _=>True) (.slice (some ⟨goz1,0,none⟩) t102.length coz1) y120:=(by rw[hw,Ny120.out];exact HPz2.1);clear HPz2;replace HI0:=aM (IsS146.grown (i146 HI0.out) hg (IsS146.own_ne HI0.out HOz1.out (by decide)));replace BKz1:=aM (blk_grown (g:=gbz1) (o:=.cells #[.slice none 0 0,.int .i64 0] 26 (0,0)) (bX BKz1.out) hg (Kd.R_ne HOz1.out BKz1.out (by decide)));replace BKz2:=aM (blk_grown (g:=gbz2) (o:=.cells #[.slice (some ⟨goz1,0,none⟩) t102.length coz1,.int .i64 t105] 26 (0,0)) (bX BKz2.out) hg (Kd.R_ne HOz1.out BKz2.out (by decide)));replace HB:=aM ((by rw[hw];exact below_set (HB.out) (Nat.le_trans HL.out GBz1.out):Below w0.heap.size w0 wz6));replace HK:=aM (KeepBut.trans (kX HK.out) (KeepBut.of_grown hg g) (Kd.R_base2 HOz1.out));replace HOz1:=aM (hp_);clear hg hw hp_;have hczz7:=cZ2 BKz2.out;have hnbz3:=NBz2.out;have hncz3:=NBz1.out;have hczz9:=cZ2 BKz1.out))
  refine bodyPost_ret (results_cell_row rfl _ _ gbz1 26 #[.slice (some ⟨goz1,0,none⟩) t102.length coz1,.int .i64 t105] (0,0) _ rfl (by (with_reducible repeat (first | refine blk_drewN ?_ _ | refine blk_drew ?_ | refine blk_alloc ?_ _));refine blk_put (cs:=#[.slice (some ⟨goz1,0,none⟩) t102.length coz1,.int .i64 0]) ?_ 1 _ rfl;(with_reducible repeat (first | refine blk_drewN ?_ _ | refine blk_drew ?_ | refine blk_alloc ?_ _));refine blk_put (cs:=#[.slice none 0 0,.int .i64 0]) ?_ 0 _ rfl;(with_reducible repeat (first | refine blk_drewN ?_ _ | refine blk_drew ?_ | refine blk_alloc ?_ _));exact BKz1.out) Tryz.underlying26 rfl (by kernel_rfl)) rfl ?_
  exact⟨_,rE,(Kd.R_mono (rF HOz1.out BKz1.out) (fun _ hk=>trivial)),(i146 HI0.out),(hY HB.out (IsS146.ge HI0.out)),(kX HK.out)⟩
 revert H;refine eN ?_ ?_<;>intro c48b0 c48b1 H
 ·revert H;refine eN ?_ ?_<;>intro c65b0 c65b1 H
  ·simp only[Option.some.injEq,Prod.mk.injEq] at H
   obtain⟨rfl,rfl,rfl,rfl⟩:=H
   go_wp2_with (refine goesM 76 7 Tryz.func76 #[.pointer (some ⟨g,0,none⟩),.int .i64 8] ?_;refine(Xj.calls g s0_0 t106 t107 8 t109 t110 t111 w0 _ (by repeat (first | (with_reducible first | exact HI0.out | apply IsS146.alloc | apply IsS146.drewN | apply IsS146.drew | apply IsS146.set_1 | apply IsS146.set_2 | refine IsS146.far ?_ NBz1.out _ | refine IsS146.far ?_ NBz5.out _) | exact HI0.out)) (by repeat (first | (with_reducible first | exact HB.out | apply below_alloc | apply pw_below_drewN | apply below_drew1 | refine below_set ?_ (IsS146.ge HI0.out) | refine below_set ?_ GEz1.out | refine below_set ?_ GEz2.out) | exact HB.out)) A3.out).mono ?_;rintro e wz4 ⟨rfl,hi,hb,hk⟩;refine⟨_,rfl,?_⟩;replace BKz1:=aM (KeepBut.blk hk (g':=gbz1) (o:=.cells #[.slice none 0 0,.int .i64 0] 26 (0,0)) (bF BKz1.out) NBz2.out (by simp));replace HOz1:=aM (Kd.R_mono (Kd.R_keep (IsS146.apart (show IsS146 w0 _ g s0_0 t106 t107 from (i146 HI0.out)) (rF HOz1.out BKz2.out) (by decide)) hk (fun _ h=>h.2)) (fun _ h=>h.1));replace BKz2:=aM (KeepBut.blk hk (g':=gbz2) (o:=.cells #[.slice Aoz1 t102.length coz1,.int .i64 t105] 26 (0,0)) (bP BKz2.out) NBz6.out (by simp));replace HK:=aM (KeepBut.trans (kX HK.out) hk (.inl rfl));replace HB:=aM (hb);replace HI0:=aM (hi);clear hb hk hi;have hczz3:=cZ2 BKz2.out;have hnbz3:=NBz2.out;have hncz3:=NBz1.out;have hczz5:=cZ2 BKz1.out)
   refine bodyPost_ret (results_cell_row rfl _ _ gbz1 26 #[.slice Aoz1 t102.length coz1,.int .i64 t105] (0,0) _ rfl (bP BKz1.out) Tryz.underlying26 rfl (by kernel_rfl)) rfl ?_
   exact⟨_,rE,(Kd.R_mono (rF HOz1.out BKz1.out) (fun _ hk=>trivial)),(i146 HI0.out),(hY HB.out (IsS146.ge HI0.out)),(kX HK.out)⟩
  replace H:=ifP H;obtain⟨c66,H⟩:=H
  have c66b0:=eq_true c66
  have c66b1:=decide_eq_true c66
  clear c66
  obtain⟨y127,hy127⟩:∃ y_:List Int,y_=(t102.take (2:Int).toNat):=⟨_,rfl⟩
  replace H:(some (y127,t105,t110,t111))=some (r1,r2,r3,r4):=yH H hy127
  have Ny127:=aM hy127
  clear hy127
  simp only[Option.some.injEq,Prod.mk.injEq] at H
  obtain⟨rfl,rfl,rfl,rfl⟩:=H
  go_wp2_with (refine goesM 76 7 Tryz.func76 #[.pointer (some ⟨g,0,none⟩),.int .i64 8] ?_;refine(Xj.calls g s0_0 t106 t107 8 t109 t110 t111 w0 _ (by repeat (first | (with_reducible first | exact HI0.out | apply IsS146.alloc | apply IsS146.drewN | apply IsS146.drew | apply IsS146.set_1 | apply IsS146.set_2 | refine IsS146.far ?_ NBz1.out _ | refine IsS146.far ?_ NBz5.out _) | exact HI0.out)) (by repeat (first | (with_reducible first | exact HB.out | apply below_alloc | apply pw_below_drewN | apply below_drew1 | refine below_set ?_ (IsS146.ge HI0.out) | refine below_set ?_ GEz1.out | refine below_set ?_ GEz2.out) | exact HB.out)) A3.out).mono ?_;rintro e wz4 ⟨rfl,hi,hb,hk⟩;refine⟨_,rfl,?_⟩;replace BKz1:=aM (KeepBut.blk hk (g':=gbz1) (o:=.cells #[.slice none 0 0,.int .i64 0] 26 (0,0)) (bF BKz1.out) NBz2.out (by simp));replace HOz1:=aM (Kd.R_mono (Kd.R_keep (IsS146.apart (show IsS146 w0 _ g s0_0 t106 t107 from (i146 HI0.out)) (rF HOz1.out BKz2.out) (by decide)) hk (fun _ h=>h.2)) (fun _ h=>h.1));replace BKz2:=aM (KeepBut.blk hk (g':=gbz2) (o:=.cells #[.slice Aoz1 t102.length coz1,.int .i64 t105] 26 (0,0)) (bP BKz2.out) NBz6.out (by simp));replace HK:=aM (KeepBut.trans (kX HK.out) hk (.inl rfl));replace HB:=aM (hb);replace HI0:=aM (hi);clear hb hk hi;have hczz3:=cZ2 BKz2.out;have qz1:(2:Int)≤((t102.length:Int):Int):=odA;obtain⟨iz1,hiz1,_,hszz1,_⟩:=info_parts info3;have hcutz1:=cut_to (P:=Tryz.prog) 24 3 .i64 Tryz.underlying24 hiz1 Aoz1 t102.length coz1 2 (by omega) qz1 (Kd.R_reads' HOz1.out).2.1;have hrz1:=Kd.R_take (m:=(2:Int).toNat) HOz1.out (by omega);have hyz1:y127.length=(2:Int).toNat:=(by rw[Ny127.out,List.length_take];omega);rw[← Ny127.out] at hrz1;rw[← hyz1] at hrz1 hcutz1;clear hyz1 hiz1 hszz1 HOz1;have HOz2:=aM hrz1;clear hrz1;replace qz1:=eq_true qz1;have hnbz3:=NBz2.out;have hncz3:=NBz1.out;have hczz5:=cZ2 BKz1.out)
  refine bodyPost_ret (results_cell_row rfl _ _ gbz1 26 #[.slice Aoz1 y127.length coz1,.int .i64 t105] (0,0) _ rfl (bP BKz1.out) Tryz.underlying26 rfl (by kernel_rfl)) rfl ?_
  exact⟨_,rE,(Kd.R_mono (rF2 HOz2.out BKz2.out BKz1.out) (fun _ hk=>trivial)),(i146 HI0.out),(hY HB.out (IsS146.ge HI0.out)),(kX HK.out)⟩
 obtain⟨y121,hy121⟩:∃ y_:List Int,y_=(([(-1),5,6]:List Int)):=⟨_,rfl⟩
 replace H:((XT.f s0_0 t110 t111 y121).bind fun bt124=>(some (t102,bt124.1,bt124.2.1,bt124.2.2)))=some (r1,r2,r3,r4):=yH H hy121
 have Ny121:=aM hy121
 clear hy121
 replace H:=bE H;obtain⟨⟨t124,t125,t126⟩,A49,H⟩:=H
 try dsimp only at H
 simp only[Option.some.injEq,Prod.mk.injEq] at H
 obtain⟨rfl,rfl,rfl,rfl⟩:=H
 go_wp2_with (first | (refine goesM 76 7 Tryz.func76 #[.pointer (some ⟨g,0,none⟩),.int .i64 8] ?_;refine(Xj.calls g s0_0 t106 t107 8 t109 t110 t111 w0 _ (by repeat (first | (with_reducible first | exact HI0.out | apply IsS146.alloc | apply IsS146.drewN | apply IsS146.drew | apply IsS146.set_1 | apply IsS146.set_2 | refine IsS146.far ?_ NBz1.out _ | refine IsS146.far ?_ NBz5.out _) | exact HI0.out)) (by repeat (first | (with_reducible first | exact HB.out | apply below_alloc | apply pw_below_drewN | apply below_drew1 | refine below_set ?_ (IsS146.ge HI0.out) | refine below_set ?_ GEz1.out | refine below_set ?_ GEz2.out) | exact HB.out)) A3.out).mono ?_;rintro e wz4 ⟨rfl,hi,hb,hk⟩;refine⟨_,rfl,?_⟩;replace BKz1:=aM (KeepBut.blk hk (g':=gbz1) (o:=.cells #[.slice none 0 0,.int .i64 0] 26 (0,0)) (bF BKz1.out) NBz2.out (by simp));replace HOz1:=aM (Kd.R_mono (Kd.R_keep (IsS146.apart (show IsS146 w0 _ g s0_0 t106 t107 from (i146 HI0.out)) (rF HOz1.out BKz2.out) (by decide)) hk (fun _ h=>h.2)) (fun _ h=>h.1));replace BKz2:=aM (KeepBut.blk hk (g':=gbz2) (o:=.cells #[.slice Aoz1 t102.length coz1,.int .i64 t105] 26 (0,0)) (bP BKz2.out) NBz6.out (by simp));replace HK:=aM (KeepBut.trans (kX HK.out) hk (.inl rfl));replace HB:=aM (hb);replace HI0:=aM (hi);clear hb hk hi) | ((with_reducible refine gate_dst (N:=27) rfl ?_);refine Kd.R_lit (Kd.int .i64) _ 3 ?hg (N:=27) ?hd (xs:=([(-1),5,6]:List Int)) (inner:=[.int .i64 (-1),.int .i64 5,.int .i64 6]) (ok:=fun _=>True) (okp:=fun _=>True) ?hr ?hp (fun _ hk=>hk) trivial (Below.refl _ _) (Nat.le_refl _) (by simp) ?_;(case hd=>rfl);(case hg=>rfl);(case hr=>first | (go_simp;done) | (go_simp;rfl));(case hp=>exact(Reps.one (show Kd.M (Kd.int .i64) _ _ _ (-1) [.int .i64 (-1)] from rfl) (Reps.one (show Kd.M (Kd.int .i64) _ _ _ 5 [.int .i64 5] from rfl) (Reps.one (show Kd.M (Kd.int .i64) _ _ _ 6 [.int .i64 6] from rfl) (Reps.none _ _)))));intro vz2 wz5 hoz2 hb hg_ hnew_;clear hg_ hnew_;(first | rw[← Ny121.out] at hoz2 | (simp only[Int.reduceToNat] at hoz2;rw[← Ny121.out] at hoz2));have HOz2:=aM (Kd.R_lower (Kd.R_new' hoz2 (Kd.R_lt (rX HOz1.out))) (keep_size (w:=w) (g:=g) (row:=none) (kX HK.out)));replace HOz1:=aM (Kd.R_elder' (rX HOz1.out) (Kd.R_base hoz2) hb);replace BKz1:=aB BKz1 hb;replace BKz2:=aB BKz2 hb;replace HK:=aM (KeepBut.trans (kX HK.out) (KeepBut.of_below hb g none) (.inl rfl));replace HB:=aM (below_step (hY HB.out (IsS146.ge HI0.out)) hb);replace HI0:=aM (IsS146.below (i146 HI0.out) hb);clear hb hoz2;obtain⟨Aoz2,coz2,eoz2⟩:=Kd.R_slice HOz2.out;subst eoz2) | (refine goesM 97 28 Tryz.func97 #[.pointer (some ⟨g,0,none⟩),.slice Aoz2 y121.length coz2] ?_;refine(XT.calls g s0_0 t110 t111 _ _ y121 t124 t125 t126 w0 _ (by repeat (first | (with_reducible first | exact HI0.out | apply IsS146.alloc | apply IsS146.drewN | apply IsS146.drew | apply IsS146.set_1 | apply IsS146.set_2 | refine IsS146.far ?_ NBz1.out _ | refine IsS146.far ?_ NBz5.out _) | exact HI0.out)) (by repeat (first | (with_reducible first | exact HB.out | apply below_alloc | apply pw_below_drewN | apply below_drew1 | refine below_set ?_ (IsS146.ge HI0.out) | refine below_set ?_ GEz1.out | refine below_set ?_ GEz2.out) | exact HB.out)) (rw2 (cX (Kd.R_reads' HOz2.out).2.2) ((Kd.R_reads' HOz2.out).2.1)) (by exact far_slice (IsS146.own_ne HI0.out HOz2.out (by decide))) A49.out).mono ?_;rintro e wz6 ⟨rfl,hi,hb,hk⟩;refine⟨_,rfl,?_⟩;replace BKz1:=aM (KeepBut.blk hk (g':=gbz1) (o:=.cells #[.slice none 0 0,.int .i64 0] 26 (0,0)) (bX BKz1.out) NBz2.out (by simp));replace HOz1:=aM (Kd.R_mono (Kd.R_keep (IsS146.apart (show IsS146 w0 _ g s0_0 t110 t111 from (i146 HI0.out)) (rX HOz1.out) (by decide)) hk (fun _ h=>h.2)) (fun _ h=>h.1));replace BKz2:=aM (KeepBut.blk hk (g':=gbz2) (o:=.cells #[.slice Aoz1 t102.length coz1,.int .i64 t105] 26 (0,0)) (bX BKz2.out) NBz6.out (by simp));replace HOz2:=aM (Kd.R_mono (Kd.R_keep (IsS146.apart (show IsS146 w0 _ g s0_0 t110 t111 from (i146 HI0.out)) (rX HOz2.out) (by decide)) hk (fun _ h=>h.2)) (fun _ h=>h.1));replace HK:=aM (KeepBut.trans (kX HK.out) hk (.inl rfl));replace HB:=aM (hb);replace HI0:=aM (hi);clear hb hk hi;have hczz3:=cZ2 BKz2.out;have hnbz3:=NBz2.out;have hncz3:=NBz1.out;have hczz5:=cZ2 BKz1.out))
 refine bodyPost_ret (results_cell_row rfl _ _ gbz1 26 #[.slice Aoz1 t102.length coz1,.int .i64 t124] (0,0) _ rfl (bP BKz1.out) Tryz.underlying26 rfl (by kernel_rfl)) rfl ?_
 exact⟨_,rE,(Kd.R_mono (rF2 HOz1.out BKz2.out BKz1.out) (fun _ hk=>trivial)),(i146 HI0.out),(hY HB.out (IsS146.ge HI0.out)),(kX HK.out)⟩
end Go.Proofs.YthejoblnfpaojaaGreat.P
