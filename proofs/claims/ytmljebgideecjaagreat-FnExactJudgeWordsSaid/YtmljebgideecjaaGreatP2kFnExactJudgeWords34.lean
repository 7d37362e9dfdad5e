/- A part of the proof of the law FnExactJudgeWords: texts of this seat, merged (words, printed functions of the program, plain lemmas). Conditions: none of its own. -/
import Derived.Test.YtmljebgideecjaaGreatP2kFnExactJudgeWords27
import Derived.Test.YtmljebgideecjaaGreatP2kFnExactJudgeWords29
import Derived.Test.YtmljebgideecjaaGreatP2kFnExactJudgeWords30
import Derived.Test.YtmljebgideecjaaGreatP2kFnExactJudgeWords31
set_option linter.unusedSimpArgs false
set_option linter.unusedVariables false
set_option maxHeartbeats 8000000
set_option maxRecDepth 100000
namespace Go.Proofs.YtmljebgideecjaaGreat.P2
open Go.Proofs.YtmljebgideecjaaGreatZ Go.RowKit Go.Proofs.YtmljebgideecjaaGreatW.PrintWords Go.Proofs.YtmljebgideecjaaGreatW.PrintLast Go.Proofs.YtmljebgideecjaaGreatW.PrintMore
attribute [local go_sem] max2_int min2_int max_two min_two max_three min_three max_four min_four   -- for this text's walks alone
def X0.j0:Nat→Bool→List Int→Int→Int→Int→Int→Int→List Int→Option (Bool)
 | 0,_,_,_,_,_,_,_,_=>none
 | k+1,x16,x102000,x102001,x103000,x103001,x103002,x104000,x104001=>if x16=true then (some false) else (if x104000=0 then ((Xn.f k x102000 x102001 x103000 x103001 x103002).bind fun bt106=>(if bt106.2=true then ((Xu.f k bt106.1 x104001).bind fun t110=>(some t110)) else (some false))) else (if (x104001.length:Int)=0 then ((Xae.f k x102000 x102001 x103000 x103001 x103002 x104000).bind fun t111=>(some t111)) else (some false)))
def X0.f (k:Nat) (l0_0:List Int) (a0_1:Int) (a1_0:Int) (a1_1:Int) (a1_2:Int) (a2_0:Int) (l2_1:List Int):Option (Bool):=(Xm.f k l0_0 a0_1).bind fun t104=>(if t104=true then ((XQ.f k a1_0 a1_1 a1_2).bind fun t105=>(X0.j0 k (!t105) l0_0 a0_1 a1_0 a1_1 a1_2 a2_0 l2_1)) else (X0.j0 k true l0_0 a0_1 a1_0 a1_1 a1_2 a2_0 l2_1))
theorem X0.calls (k:Nat) (A0_0:Option Addr) (c0_0:Nat) (l0_0:List Int) (a0_1:Int) (a1_0:Int) (a1_1:Int) (a1_2:Int) (a2_0:Int) (A2_1:Option Addr) (c2_1:Nat) (l2_1:List Int) (r:Bool) (w:World) (h0_0:Rw (Kd.int .i64) w A0_0 c0_0 l0_0) (h2_1:Rw (Kd.int .i64) w A2_1 c2_1 l2_1) (H:X0.f k l0_0 a0_1 a1_0 a1_1 a1_2 a2_0 l2_1=some r) :
  Calls Tryz.prog 80 #[.agg #[.slice A0_0 l0_0.length c0_0,.int .i64 a0_1],.agg #[.int .i64 a1_0,.int .i64 a1_1,.int .i64 a1_2],.agg #[.int .i64 a2_0,.slice A2_1 l2_1.length c2_1]] w fun e w'=>e = .returned (.bool r)∧Below w.heap.size w w':=by
 have hu41:=Tryz.underlying41
 have hu69:=Tryz.underlying69
 have hu71:=Tryz.underlying71
 obtain⟨HR0_0,HC0_0⟩:=h0_0
 obtain⟨HR2_1,HC2_1⟩:=h2_1
 have HB:=aM (Below.refl w.heap.size w)
 unfold X0.f at H
 have HC4:=aM H
 clear H
 go_enter Tryz.func80,Tryz.ntmps80
 go_upto_region 1 with(first | ((with_reducible refine gate_dst (N:=3) rfl ?_);refine boxE 3 #[.slice A0_0 l0_0.length c0_0,.int .i64 a0_1] 41 ?_;intro gbz1 hg wz1 hbox hb;have BKz1:=aM (hbox);have GWz1:=aG hg HB;replace HB:=aS HB hb;clear hb hbox hg) | ((with_reducible refine gate_dst (N:=4) rfl ?_);refine boxE 4 #[.int .i64 a1_0,.int .i64 a1_1,.int .i64 a1_2] 69 ?_;intro gbz2 hg wz2 hbox hb;have BKz2:=aM (hbox);have GWz2:=aG hg HB;have NBz1:=aL hg BKz1;have NBz2:=aR hg BKz1;replace BKz1:=aB BKz1 hb;replace HB:=aS HB hb;clear hb hbox hg) | ((with_reducible refine gate_dst (N:=5) rfl ?_);refine boxE 5 #[.int .i64 a2_0,.slice A2_1 l2_1.length c2_1] 71 ?_;intro gbz3 hg wz3 hbox hb;have BKz3:=aM (hbox);have GWz3:=aG hg HB;have NBz3:=aL hg BKz1;have NBz4:=aR hg BKz1;have NBz5:=aL hg BKz2;have NBz6:=aR hg BKz2;replace BKz1:=aB BKz1 hb;replace BKz2:=aB BKz2 hb;replace HB:=aS HB hb;clear hb hbox hg))
 (try simp only[Act.put,List.setIfInBounds_toArray,List.set_cons_zero,List.set_cons_succ])
 go_cut [16] (fun vz1 wc=>∃ (kq:Nat) (x16_3:Bool),vz1 = .bool x16_3∧Aside0 (X0.j0 kq x16_3 l0_0 a0_1 a1_0 a1_1 a1_2 a2_0 l2_1=some r)∧Aside0 (kq≤k)∧Aside0 (wc.heap[gbz1]? = some (.cells #[(.slice A0_0 l0_0.length c0_0),.int .i64 a0_1] 41 (0,0)))∧Aside0 (wc.heap[gbz2]? = some (.cells #[.int .i64 a1_0,.int .i64 a1_1,.int .i64 a1_2] 69 (0,0)))∧Aside0 (wc.heap[gbz3]? = some (.cells #[.int .i64 a2_0,(.slice A2_1 l2_1.length c2_1)] 71 (0,0)))∧Aside0 (Below w.heap.size w wc))
 case first =>
  have H:=HC4.out
  clear HC4
  replace H:=bE H;obtain⟨t104,A8,H⟩:=H
  cases t104
  case false =>
   rw[if_neg nft] at H
   have H':=aM H
   clear H
   have hnby1:=NBz1.out
   have hncy1:=NBz2.out
   have hnby2:=NBz3.out
   have hncy2:=NBz4.out
   have hczy1:=cZ2 BKz1.out
   go_wp2_with (refine gB 93 10 Tryz.func93 (Xm.calls _ _ _ _ _ _ _ (rW HR0_0 HB HC0_0) A8.out) ?_;intro wy1 hb;replace BKz1:=aB BKz1 hb;replace BKz2:=aB BKz2 hb;replace BKz3:=aB BKz3 hb;replace HB:=aS HB hb;clear hb)
   go_meet
   case rel=>exact⟨_,(true),rS,H',⟨by first | omega | exact Nat.le_refl _⟩,⟨(bX BKz1.out)⟩,⟨(bX BKz2.out)⟩,⟨(bX BKz3.out)⟩,⟨(hX HB.out)⟩⟩
  rw[if_pos rfl] at H
  replace H:=bE H;obtain⟨t105,A10,H⟩:=H
  have H':=aM H
  clear H
  have hnby1:=NBz1.out
  have hncy1:=NBz2.out
  have hnby2:=NBz3.out
  have hncy2:=NBz4.out
  have hczy1:=cZ2 BKz1.out
  go_wp2_with (first | (refine gB 93 10 Tryz.func93 (Xm.calls _ _ _ _ _ _ _ (rW HR0_0 HB HC0_0) A8.out) ?_;intro wy1 hb;replace BKz1:=aB BKz1 hb;replace BKz2:=aB BKz2 hb;replace BKz3:=aB BKz3 hb;replace HB:=aS HB hb;clear hb;have hnby3:=nB NBz5 NBz6;have hczy3:=cZ3 BKz2.out) | (go_at_call 138;(with_reducible refine(XQ.calls _ _ _ _ _ _ A10.out).mono ?_);rintro e wy2 ⟨rfl,hb⟩;replace BKz1:=aB BKz1 hb;replace BKz2:=aB BKz2 hb;replace BKz3:=aB BKz3 hb;replace HB:=aS HB hb;clear hb))
  go_meet
  case rel=>exact⟨_,(!t105),rS,H',⟨by first | omega | exact Nat.le_refl _⟩,⟨(bX BKz1.out)⟩,⟨(bX BKz2.out)⟩,⟨(bX BKz3.out)⟩,⟨(hX HB.out)⟩⟩
 case rest =>
  clear HC4
  obtain⟨kq,x16_3,rfl,HA,HJy1,BKz1,BKz2,BKz3,HB⟩:=hcut
  cases kq with
  | zero=>exact absurd HA.out (by simp[X0.j0])
  | succ kj3 =>
   have H:=HA.out
   clear HA
   simp only[X0.j0] at H
   cases x16_3
   case true =>
    rw[if_pos rfl] at H
    exact fR
   rw[if_neg nft] at H
   revert H;refine eN ?_ ?_<;>intro c23b0 c23b1 H
   ·by_cases c43:(l2_1.length:Int)=0
    case neg =>
     rw[if_neg c43] at H
     obtain⟨c43b0,c43b1⟩:=eqF c43
     have c43b2:¬ (l2_1=[]):=fun h_=>c43 (by rw[h_];rfl)
     obtain rfl:=sI H
     have hnbx1:=NBz4.out
     have hncx1:=NBz3.out
     have hnbx2:=NBz6.out
     have hncx2:=NBz5.out
     have hczx1:=cZ2 BKz3.out
     exact fS
    rw[if_pos c43] at H
    obtain⟨c43b0,c43b1⟩:=eqT c43
    clear c43
    replace H:=bE H;obtain⟨t111,A44,H⟩:=H
    obtain rfl:=sI H
    have hnbx1:=NBz4.out
    have hncx1:=NBz3.out
    have hnbx2:=NBz6.out
    have hncx2:=NBz5.out
    have hczx1:=cZ2 BKz3.out
    have hnbx3:=NBz1.out
    have hncx3:=NBz2.out
    have hczx3:=cZ2 BKz1.out
    have hczx5:=cZ3 BKz2.out
    go_wp2_with (go_at_call 139;(with_reducible refine(Xae.calls _ _ _ _ _ _ _ _ _ _ _ (rW HR0_0 HB HC0_0) A44.out).mono ?_);rintro e wx1 ⟨rfl,hb⟩;replace BKz1:=aB BKz1 hb;replace BKz2:=aB BKz2 hb;replace BKz3:=aB BKz3 hb;replace HB:=aS HB hb;clear hb)
    go_ret
    exact⟨rE,(hX HB.out)⟩
   replace H:=bE H;obtain⟨⟨t106,t109⟩,A24,H⟩:=H
   try dsimp only at H
   cases t109
   case false =>
    rw[if_neg nft] at H
    obtain rfl:=sI H
    have hnbx1:=NBz4.out
    have hncx1:=NBz3.out
    have hnbx2:=NBz6.out
    have hncx2:=NBz5.out
    have hczx1:=cZ2 BKz3.out
    have hnbx3:=NBz1.out
    have hncx3:=NBz2.out
    have hczx3:=cZ2 BKz1.out
    have hczx5:=cZ3 BKz2.out
    go_wp2_with (refine goesM 140 34 Tryz.func140 #[.agg #[.slice A0_0 l0_0.length c0_0,.int .i64 a0_1],.agg #[.int .i64 a1_0,.int .i64 a1_1,.int .i64 a1_2]] ?_;refine(Xn.calls _ _ _ _ _ _ _ _ _ _ _ (rW HR0_0 HB HC0_0) A24.out).mono ?_;rintro e wx1 ⟨vx1,rfl,hox1,hb⟩;refine⟨_,rfl,?_⟩;have HOx1:=aM (Kd.R_lower hox1 (below_size (hX HB.out)));replace BKz1:=aB BKz1 hb;replace BKz2:=aB BKz2 hb;replace BKz3:=aB BKz3 hb;replace HB:=aS HB hb;clear hb hox1)
    go_ret
    exact⟨rE,(hX HB.out)⟩
   rw[if_pos rfl] at H
   replace H:=bE H;obtain⟨t110,A26,H⟩:=H
   obtain rfl:=sI H
   have hnbx1:=NBz4.out
   have hncx1:=NBz3.out
   have hnbx2:=NBz6.out
   have hncx2:=NBz5.out
   have hczx1:=cZ2 BKz3.out
   have hnbx3:=NBz1.out
   have hncx3:=NBz2.out
   have hczx3:=cZ2 BKz1.out
   have hczx5:=cZ3 BKz2.out
   go_wp2_with (first | (refine goesM 140 34 Tryz.func140 #[.agg #[.slice A0_0 l0_0.length c0_0,.int .i64 a0_1],.agg #[.int .i64 a1_0,.int .i64 a1_1,.int .i64 a1_2]] ?_;refine(Xn.calls _ _ _ _ _ _ _ _ _ _ _ (rW HR0_0 HB HC0_0) A24.out).mono ?_;rintro e wx1 ⟨vx1,rfl,hox1,hb⟩;refine⟨_,rfl,?_⟩;have HOx1:=aM (Kd.R_lower hox1 (below_size (hX HB.out)));replace BKz1:=aB BKz1 hb;replace BKz2:=aB BKz2 hb;replace BKz3:=aB BKz3 hb;replace HB:=aS HB hb;clear hb hox1;have hczx8:=cZ2 BKz3.out;obtain⟨Aox1,cox1,eox1⟩:=Kd.R_slice HOx1.out;subst eox1) | (go_at_call 84;(with_reducible refine(Xu.calls _ _ _ _ _ _ _ _ _ (rw2 (cX (Kd.R_reads' HOx1.out).2.2) ((Kd.R_reads' HOx1.out).2.1)) (rW HR2_1 HB HC2_1) A26.out).mono ?_);rintro e w' ⟨rfl,⟨nd,rfl⟩⟩))
   go_ret
   exact⟨rE,(hX HB.out)⟩
def Xaw.f (k:Nat) (l0:List (S162))  : Option (Bool):=(XL.f k l0).bind fun t101=>(some (decide (t101 ≥ 0)))
theorem Xaw.calls (k:Nat) (A0:Option Addr) (c0:Nat) (l0:List (S162)) (r:Bool) (w:World) (h0:Rw k162 w A0 c0 l0) (H:Xaw.f k l0=some r) :
  Calls Tryz.prog 169 #[.slice A0 l0.length c0,.func (.func 170) #[] #[]] w fun e w'=>e = .returned (.bool r)∧Below w.heap.size w w':=by
 obtain⟨HR0,HC0⟩:=h0
 have HB:=aM (Below.refl w.heap.size w)
 unfold Xaw.f at H
 replace H:=bE H;obtain⟨t101,A3,H⟩:=H
 obtain rfl:=sI H
 go_enter Tryz.func169,Tryz.ntmps169
 go_wp2_with (refine gB 208 7 Tryz.func208 (XL.calls _ _ _ _ _ _ (rw2 (cX HR0.out) HC0.out) A3.out) ?_;intro wz1 hb;replace HB:=aS HB hb;clear hb)
 go_ret
 exact⟨rE,(hX HB.out)⟩
def XaA.f (k:Nat) (l0:List (S69))  : Option (Bool):=(XW.f k l0).bind fun t101=>(some (decide (t101 ≥ 0)))
theorem XaA.calls (k:Nat) (A0:Option Addr) (c0:Nat) (l0:List (S69)) (r:Bool) (w:World) (h0:Rw k69 w A0 c0 l0) (H:XaA.f k l0=some r) :
  Calls Tryz.prog 178 #[.slice A0 l0.length c0,.func (.func 179) #[] #[]] w fun e w'=>e = .returned (.bool r)∧Below w.heap.size w w':=by
 obtain⟨HR0,HC0⟩:=h0
 have HB:=aM (Below.refl w.heap.size w)
 unfold XaA.f at H
 replace H:=bE H;obtain⟨t101,A3,H⟩:=H
 obtain rfl:=sI H
 go_enter Tryz.func178,Tryz.ntmps178
 go_wp2_with (refine gB 210 7 Tryz.func210 (XW.calls _ _ _ _ _ _ (rw2 (cX HR0.out) HC0.out) A3.out) ?_;intro wz1 hb;replace HB:=aS HB hb;clear hb)
 go_ret
 exact⟨rE,(hX HB.out)⟩
def X1.j0:Nat→Bool→List Int→Int→Int→Int→Int→Int→List Int→Option (Bool)
 | 0,_,_,_,_,_,_,_,_=>none
 | k+1,x16,x102000,x102001,x103000,x103001,x103002,x104000,x104001=>if x16=true then (some false) else (if x104000=0 then ((Xj.f k x102000 x102001 x103000 x103001 x103002).bind fun bt106=>(if bt106.2=true then ((slices_Equal_int_int.f k bt106.1 x104001).bind fun t110=>(some t110)) else (some false))) else (if (x104001.length:Int)=0 then ((Xk.f k x102000 x102001 x103000 x103001 x103002 x104000).bind fun t111=>(some t111)) else (some false)))
def X1.f (k:Nat) (l0_0:List Int) (a0_1:Int) (a1_0:Int) (a1_1:Int) (a1_2:Int) (a2_0:Int) (l2_1:List Int):Option (Bool):=(XV.f k l0_0 a0_1).bind fun t104=>(if t104=true then ((Xt.f k a1_0 a1_1 a1_2).bind fun t105=>(X1.j0 k (!t105) l0_0 a0_1 a1_0 a1_1 a1_2 a2_0 l2_1)) else (X1.j0 k true l0_0 a0_1 a1_0 a1_1 a1_2 a2_0 l2_1))
theorem X1.calls (k:Nat) (A0_0:Option Addr) (c0_0:Nat) (l0_0:List Int) (a0_1:Int) (a1_0:Int) (a1_1:Int) (a1_2:Int) (a2_0:Int) (A2_1:Option Addr) (c2_1:Nat) (l2_1:List Int) (r:Bool) (w:World) (h0_0:Rw (Kd.int .i64) w A0_0 c0_0 l0_0) (h2_1:Rw (Kd.int .i64) w A2_1 c2_1 l2_1) (H:X1.f k l0_0 a0_1 a1_0 a1_1 a1_2 a2_0 l2_1=some r) :
  Calls Tryz.prog 82 #[.agg #[.slice A0_0 l0_0.length c0_0,.int .i64 a0_1],.agg #[.int .i64 a1_0,.int .i64 a1_1,.int .i64 a1_2],.agg #[.int .i64 a2_0,.slice A2_1 l2_1.length c2_1]] w fun e w'=>e = .returned (.bool r)∧Below w.heap.size w w':=by
 have hu41:=Tryz.underlying41
 have hu69:=Tryz.underlying69
 have hu71:=Tryz.underlying71
 obtain⟨HR0_0,HC0_0⟩:=h0_0
 obtain⟨HR2_1,HC2_1⟩:=h2_1
 have HB:=aM (Below.refl w.heap.size w)
 unfold X1.f at H
 have HC4:=aM H
 clear H
 go_enter Tryz.func82,Tryz.ntmps82
 go_upto_region 1 with(first | ((with_reducible refine gate_dst (N:=3) rfl ?_);refine boxE 3 #[.slice A0_0 l0_0.length c0_0,.int .i64 a0_1] 41 ?_;intro gbz1 hg wz1 hbox hb;have BKz1:=aM (hbox);have GWz1:=aG hg HB;replace HB:=aS HB hb;clear hb hbox hg) | ((with_reducible refine gate_dst (N:=4) rfl ?_);refine boxE 4 #[.int .i64 a1_0,.int .i64 a1_1,.int .i64 a1_2] 69 ?_;intro gbz2 hg wz2 hbox hb;have BKz2:=aM (hbox);have GWz2:=aG hg HB;have NBz1:=aL hg BKz1;have NBz2:=aR hg BKz1;replace BKz1:=aB BKz1 hb;replace HB:=aS HB hb;clear hb hbox hg) | ((with_reducible refine gate_dst (N:=5) rfl ?_);refine boxE 5 #[.int .i64 a2_0,.slice A2_1 l2_1.length c2_1] 71 ?_;intro gbz3 hg wz3 hbox hb;have BKz3:=aM (hbox);have GWz3:=aG hg HB;have NBz3:=aL hg BKz1;have NBz4:=aR hg BKz1;have NBz5:=aL hg BKz2;have NBz6:=aR hg BKz2;replace BKz1:=aB BKz1 hb;replace BKz2:=aB BKz2 hb;replace HB:=aS HB hb;clear hb hbox hg))
 (try simp only[Act.put,List.setIfInBounds_toArray,List.set_cons_zero,List.set_cons_succ])
 go_cut [16] (fun vz1 wc=>∃ (kq:Nat) (x16_3:Bool),vz1 = .bool x16_3∧Aside0 (X1.j0 kq x16_3 l0_0 a0_1 a1_0 a1_1 a1_2 a2_0 l2_1=some r)∧Aside0 (kq≤k)∧Aside0 (wc.heap[gbz1]? = some (.cells #[(.slice A0_0 l0_0.length c0_0),.int .i64 a0_1] 41 (0,0)))∧Aside0 (wc.heap[gbz2]? = some (.cells #[.int .i64 a1_0,.int .i64 a1_1,.int .i64 a1_2] 69 (0,0)))∧Aside0 (wc.heap[gbz3]? = some (.cells #[.int .i64 a2_0,(.slice A2_1 l2_1.length c2_1)] 71 (0,0)))∧Aside0 (Below w.heap.size w wc))
 case first =>
  have H:=HC4.out
  clear HC4
  replace H:=bE H;obtain⟨t104,A8,H⟩:=H
  cases t104
  case false =>
   rw[if_neg nft] at H
   have H':=aM H
   clear H
   have hnby1:=NBz1.out
   have hncy1:=NBz2.out
   have hnby2:=NBz3.out
   have hncy2:=NBz4.out
   have hczy1:=cZ2 BKz1.out
   go_wp2_with (refine gB 103 10 Tryz.func103 (XV.calls _ _ _ _ _ _ _ (rW HR0_0 HB HC0_0) A8.out) ?_;intro wy1 hb;replace BKz1:=aB BKz1 hb;replace BKz2:=aB BKz2 hb;replace BKz3:=aB BKz3 hb;replace HB:=aS HB hb;clear hb)
   go_meet
   case rel=>exact⟨_,(true),rS,H',⟨by first | omega | exact Nat.le_refl _⟩,⟨(bX BKz1.out)⟩,⟨(bX BKz2.out)⟩,⟨(bX BKz3.out)⟩,⟨(hX HB.out)⟩⟩
  rw[if_pos rfl] at H
  replace H:=bE H;obtain⟨t105,A10,H⟩:=H
  have H':=aM H
  clear H
  have hnby1:=NBz1.out
  have hncy1:=NBz2.out
  have hnby2:=NBz3.out
  have hncy2:=NBz4.out
  have hczy1:=cZ2 BKz1.out
  go_wp2_with (first | (refine gB 103 10 Tryz.func103 (XV.calls _ _ _ _ _ _ _ (rW HR0_0 HB HC0_0) A8.out) ?_;intro wy1 hb;replace BKz1:=aB BKz1 hb;replace BKz2:=aB BKz2 hb;replace BKz3:=aB BKz3 hb;replace HB:=aS HB hb;clear hb;have hnby3:=nB NBz5 NBz6;have hczy3:=cZ3 BKz2.out) | (go_at_call 105;(with_reducible refine(Xt.calls _ _ _ _ _ _ A10.out).mono ?_);rintro e wy2 ⟨rfl,hb⟩;replace BKz1:=aB BKz1 hb;replace BKz2:=aB BKz2 hb;replace BKz3:=aB BKz3 hb;replace HB:=aS HB hb;clear hb))
  go_meet
  case rel=>exact⟨_,(!t105),rS,H',⟨by first | omega | exact Nat.le_refl _⟩,⟨(bX BKz1.out)⟩,⟨(bX BKz2.out)⟩,⟨(bX BKz3.out)⟩,⟨(hX HB.out)⟩⟩
 case rest =>
  clear HC4
  obtain⟨kq,x16_3,rfl,HA,HJy1,BKz1,BKz2,BKz3,HB⟩:=hcut
  cases kq with
  | zero=>exact absurd HA.out (by simp[X1.j0])
  | succ kj3 =>
   have H:=HA.out
   clear HA
   simp only[X1.j0] at H
   cases x16_3
   case true =>
    rw[if_pos rfl] at H
    exact fR
   rw[if_neg nft] at H
   revert H;refine eN ?_ ?_<;>intro c23b0 c23b1 H
   ·by_cases c43:(l2_1.length:Int)=0
    case neg =>
     rw[if_neg c43] at H
     obtain⟨c43b0,c43b1⟩:=eqF c43
     have c43b2:¬ (l2_1=[]):=fun h_=>c43 (by rw[h_];rfl)
     obtain rfl:=sI H
     have hnbx1:=NBz4.out
     have hncx1:=NBz3.out
     have hnbx2:=NBz6.out
     have hncx2:=NBz5.out
     have hczx1:=cZ2 BKz3.out
     exact fS
    rw[if_pos c43] at H
    obtain⟨c43b0,c43b1⟩:=eqT c43
    clear c43
    replace H:=bE H;obtain⟨t111,A44,H⟩:=H
    obtain rfl:=sI H
    have hnbx1:=NBz4.out
    have hncx1:=NBz3.out
    have hnbx2:=NBz6.out
    have hncx2:=NBz5.out
    have hczx1:=cZ2 BKz3.out
    have hnbx3:=NBz1.out
    have hncx3:=NBz2.out
    have hczx3:=cZ2 BKz1.out
    have hczx5:=cZ3 BKz2.out
    go_wp2_with (go_at_call 141;(with_reducible refine(Xk.calls _ _ _ _ _ _ _ _ _ _ _ (rW HR0_0 HB HC0_0) A44.out).mono ?_);rintro e wx1 ⟨rfl,hb⟩;replace BKz1:=aB BKz1 hb;replace BKz2:=aB BKz2 hb;replace BKz3:=aB BKz3 hb;replace HB:=aS HB hb;clear hb)
    go_ret
    exact⟨rE,(hX HB.out)⟩
   replace H:=bE H;obtain⟨⟨t106,t109⟩,A24,H⟩:=H
   try dsimp only at H
   cases t109
   case false =>
    rw[if_neg nft] at H
    obtain rfl:=sI H
    have hnbx1:=NBz4.out
    have hncx1:=NBz3.out
    have hnbx2:=NBz6.out
    have hncx2:=NBz5.out
    have hczx1:=cZ2 BKz3.out
    have hnbx3:=NBz1.out
    have hncx3:=NBz2.out
    have hczx3:=cZ2 BKz1.out
    have hczx5:=cZ3 BKz2.out
    go_wp2_with (refine goesM 142 34 Tryz.func142 #[.agg #[.slice A0_0 l0_0.length c0_0,.int .i64 a0_1],.agg #[.int .i64 a1_0,.int .i64 a1_1,.int .i64 a1_2]] ?_;refine(Xj.calls kj3 (fun k_=>k_<w.heap.size) _ _ l0_0 a0_1 a1_0 a1_1 a1_2 t106 false _ (by exact Kd.V_mk HC0_0.out (Kd.F_below (Kd.C_F (Kd.heap_int .i64) HR0_0.out) (hX HB.out))) A24.out).mono ?_;rintro e wx1 ⟨vx1,rfl,hox1,hb⟩;refine⟨_,rfl,?_⟩;have HOx1:=aM (Kd.V_lower (Kd.V_mono (ok':=fun k_=>k_ ≠ gbz1∧k_ ≠ gbz2∧k_ ≠ gbz3) hox1 (fun k_ hk_=>⟨Or.elim hk_ (fun hs_=>fun e_=>Nat.not_le.2 hs_ (by rw[e_];exact GWz1.out)) (fun hn_=>(Kd.freshB (g:=gbz1) (o:=.cells #[.slice A0_0 l0_0.length c0_0,.int .i64 a0_1] 41 (0,0)) (bX BKz1.out) k_ hn_)),Or.elim hk_ (fun hs_=>fun e_=>Nat.not_le.2 hs_ (by rw[e_];exact GWz2.out)) (fun hn_=>(Kd.freshB (g:=gbz2) (o:=.cells #[.int .i64 a1_0,.int .i64 a1_1,.int .i64 a1_2] 69 (0,0)) (bX BKz2.out) k_ hn_)),Or.elim hk_ (fun hs_=>fun e_=>Nat.not_le.2 hs_ (by rw[e_];exact GWz3.out)) (fun hn_=>(Kd.freshB (g:=gbz3) (o:=.cells #[.int .i64 a2_0,.slice A2_1 l2_1.length c2_1] 71 (0,0)) (bX BKz3.out) k_ hn_))⟩)) (below_size (hX HB.out)));replace BKz1:=aB BKz1 hb;replace BKz2:=aB BKz2 hb;replace BKz3:=aB BKz3 hb;replace HB:=aS HB hb;clear hb hox1)
    go_ret
    exact⟨rE,(hX HB.out)⟩
   rw[if_pos rfl] at H
   replace H:=bE H;obtain⟨t110,A26,H⟩:=H
   obtain rfl:=sI H
   have hnbx1:=NBz4.out
   have hncx1:=NBz3.out
   have hnbx2:=NBz6.out
   have hncx2:=NBz5.out
   have hczx1:=cZ2 BKz3.out
   have hnbx3:=NBz1.out
   have hncx3:=NBz2.out
   have hczx3:=cZ2 BKz1.out
   have hczx5:=cZ3 BKz2.out
   go_wp2_with (first | (refine goesM 142 34 Tryz.func142 #[.agg #[.slice A0_0 l0_0.length c0_0,.int .i64 a0_1],.agg #[.int .i64 a1_0,.int .i64 a1_1,.int .i64 a1_2]] ?_;refine(Xj.calls kj3 (fun k_=>k_<w.heap.size) _ _ l0_0 a0_1 a1_0 a1_1 a1_2 t106 true _ (by exact Kd.V_mk HC0_0.out (Kd.F_below (Kd.C_F (Kd.heap_int .i64) HR0_0.out) (hX HB.out))) A24.out).mono ?_;rintro e wx1 ⟨vx1,rfl,hox1,hb⟩;refine⟨_,rfl,?_⟩;have HOx1:=aM (Kd.V_lower (Kd.V_mono (ok':=fun k_=>k_ ≠ gbz1∧k_ ≠ gbz2∧k_ ≠ gbz3) hox1 (fun k_ hk_=>⟨Or.elim hk_ (fun hs_=>fun e_=>Nat.not_le.2 hs_ (by rw[e_];exact GWz1.out)) (fun hn_=>(Kd.freshB (g:=gbz1) (o:=.cells #[.slice A0_0 l0_0.length c0_0,.int .i64 a0_1] 41 (0,0)) (bX BKz1.out) k_ hn_)),Or.elim hk_ (fun hs_=>fun e_=>Nat.not_le.2 hs_ (by rw[e_];exact GWz2.out)) (fun hn_=>(Kd.freshB (g:=gbz2) (o:=.cells #[.int .i64 a1_0,.int .i64 a1_1,.int .i64 a1_2] 69 (0,0)) (bX BKz2.out) k_ hn_)),Or.elim hk_ (fun hs_=>fun e_=>Nat.not_le.2 hs_ (by rw[e_];exact GWz3.out)) (fun hn_=>(Kd.freshB (g:=gbz3) (o:=.cells #[.int .i64 a2_0,.slice A2_1 l2_1.length c2_1] 71 (0,0)) (bX BKz3.out) k_ hn_))⟩)) (below_size (hX HB.out)));replace BKz1:=aB BKz1 hb;replace BKz2:=aB BKz2 hb;replace BKz3:=aB BKz3 hb;replace HB:=aS HB hb;clear hb hox1;have hczx8:=cZ2 BKz3.out;obtain⟨Aox1,cox1,eox1⟩:=Kd.V_slice HOx1.out;subst eox1) | (go_at_call 86;(with_reducible refine(slices_Equal_int_int.calls _ _ _ _ _ _ _ _ _ (cX (Kd.V_reads' HOx1.out).2.2) ((Kd.V_reads' HOx1.out).2.1) (cC HR2_1.out HB.out) HC2_1.out A26.out).mono ?_);rintro e w' ⟨rfl,⟨nd,rfl⟩⟩))
   go_ret
   exact⟨rE,(hX HB.out)⟩
end Go.Proofs.YtmljebgideecjaaGreat.P2
namespace Go.Proofs.YtmljebgideecjaaGreat.P2
open Go.RowKit Go.Proofs.YtmljebgideecjaaGreatW.PrintWords Go.Proofs.YtmljebgideecjaaGreatW.PrintLast Go.Proofs.YtmljebgideecjaaGreatZ
def own (h:List Int):Nat→Int→Int
 | 0,_=>0
 | k+1,v=>if rd h (k:Int)=v then (k:Int)+1 else own h k v
def cnt (h:List Int):Nat→Int→Int
 | 0,_=>0
 | k+1,c=>cnt h k c+(if rd h (k:Int) ≠ 0∧rd h (k:Int) % 3=c then 1 else 0)
def via (h:List Int) (s:Int):Nat→Int→Int
 | 0,_=>0
 | k+1,v=>if rd h (k:Int)=v∧(k:Int)<s - 1 then (k:Int)+1 else via h s k v
theorem cnt_le (h:List Int) (c:Int):∀ k,0≤cnt h k c∧cnt h k c≤(k:Int)
 | 0=>by simp[cnt]
 | k+1=>by
  have:=cnt_le h c k
  simp only[cnt]
  split<;>omega
def wl (F:Nat→Int):List Int:=(List.range 20).map F
theorem wl_length (F:Nat→Int):(wl F).length=20:=by unfold wl;rw[List.length_map,List.length_range]
theorem wl_get (F:Nat→Int) {i:Nat} (h:i<20):(wl F)[i]? = some (F i):=by
 unfold wl
 rw[List.getElem?_map,List.getElem?_range h]
 rfl
theorem wl_rd (F:Nat→Int) {i:Int} (h0:0≤i) (h:i<20):rd (wl F) i=F i.toNat:=by
 obtain⟨n,rfl⟩:∃ n:Nat,i=(n:Int):=⟨i.toNat,by omega⟩
 rw[Int.toNat_natCast]
 exact rd_get (wl_get F (by omega))
theorem wl_ext {F G:Nat→Int} (h:∀ i,i<20→F i=G i):wl F=wl G:=by
 unfold wl
 refine List.map_congr_left fun i hi=>h i (List.mem_range.mp hi)
theorem wl_set (F:Nat→Int) {j:Nat} (hj:j<20) (a:Int):(wl F).set j a=wl (fun i=>if i=j then a else F i):=by
 apply List.ext_getElem?
 intro i
 by_cases hi:i<20
 ·rw[wl_get _ hi,List.getElem?_set]
  by_cases e:j=i
  ·subst e
   rw[if_pos rfl,if_pos (by rw[wl_length];exact hj),if_pos rfl]
  ·rw[if_neg e,wl_get _ hi,if_neg (fun a=>e a.symm)]
 ·rw[List.getElem?_eq_none (by rw[List.length_set,wl_length];omega),List.getElem?_eq_none (by rw[wl_length];omega)]
def SF (h:List Int) (s:Int) (k:Nat) (i:Nat):Int :=
 if i<4 then (if i<k then rd h (i:Int) else 0) else if i<10 then own h k ((i:Int) - 3) else if i<14 then 0 else via h s k ((i:Int) - 13)
def PF (h:List Int) (s:Int) (k:Nat) (i:Nat):Int :=
 if i<4 then rd h (i:Int) else if i<10 then own h k ((i:Int) - 3) else if i<13 then cnt h k ((i:Int) - 10) else if i<14 then 0 else via h s k ((i:Int) - 13)
def WF (h:List Int) (s:Int) (i:Nat):Int :=
 if i<4 then rd h (i:Int) else if i<10 then own h 4 ((i:Int) - 3) else if i<13 then cnt h 4 ((i:Int) - 10) else if i<14 then s else via h s 4 ((i:Int) - 13)
def okVal (v:Int):Prop:=v=0 ∨ (1≤v∧v≤6)
theorem place_facts {v:Int} (h1:1≤v) (h6:v≤6):Xa5.f v=some (3+v)∧Xa6.f v=some (3+v)∧Xbn.f v=some (13+v)∧Xbo.f v=some (13+v)∧XaK.f v=some (v % 3)∧Xa4.f v=some (v % 3)∧XB.f v=some true:=by
 have g1:v ≥ 1:=h1
 have e1:wrap64 (3+v)=3+v:=w64 (by omega) (by omega)
 have e2:wrap64 (13+v)=13+v:=w64 (by omega) (by omega)
 have e3:Int.tmod v 3=v % 3:=Int.tmod_eq_emod_of_nonneg (by omega)
 refine⟨?_,?_,?_,?_,?_,?_,?_⟩
 ·simp only[Xa5.f,XB.f,Xa.f,g1,h6,if_true,decide_true,Option.bind_some,e1]
 ·simp only[Xa6.f,XM.f,Xd.f,Xas.f,g1,h6,if_true,decide_true,Option.bind_some,e1]
 ·simp only[Xbn.f,XB.f,Xa.f,XaG.f,g1,h6,if_true,decide_true,Option.bind_some,e2]
 ·simp only[Xbo.f,XM.f,Xd.f,XaH.f,Xas.f,g1,h6,if_true,decide_true,Option.bind_some,e2]
 ·simp only[XaK.f,XM.f,Xd.f,g1,h6,if_true,decide_true,Option.bind_some,e3]
 ·simp only[Xa4.f,XB.f,Xa.f,g1,h6,if_true,decide_true,Option.bind_some,e3]
 ·simp only[XB.f,Xa.f,g1,h6,if_true,decide_true,Option.bind_some]
theorem count_facts {c:Int} (h0:0≤c) (h2:c≤2):Xa2.f c=some (10+c)∧Xa7.f c=some (10+c):=by
 have g0:c ≥ 0:=h0
 have e:wrap64 (10+c)=10+c:=w64 (by omega) (by omega)
 constructor
 ·simp only[Xa2.f,Xa.f,g0,h2,if_true,decide_true,Option.bind_some,e]
 ·simp only[Xa7.f,XaC.f,Xd.f,Xas.f,g0,h2,if_true,decide_true,Option.bind_some,e]
theorem rowAt_fact {k:Nat} (h:k<4):Xbm.f (k:Int)=some (k:Int):=by
 have g0:(k:Int) ≥ 0:=by omega
 have g3:(k:Int)≤3:=by omega
 simp only[Xbm.f,XaM.f,Xa.f,g0,g3,if_true,decide_true,Option.bind_some]
theorem SF_zero {h:List Int} {s:Int} {k:Nat} (hk:k<4) (hz:rd h (k:Int)=0):(wl (SF h s k)).set k 0=wl (SF h s (k+1)):=by
 rw[wl_set _ (by omega)]
 refine wl_ext fun i hi => ?_
 simp only[SF,own,via,hz]
 by_cases e:i=k
 ·subst e
  simp[hk,hz]
 ·rw[if_neg e]
  by_cases h4:i<4
  ·rw[if_pos h4,if_pos h4]
   by_cases h5:i<k
   ·rw[if_pos h5,if_pos (by omega)]
   ·rw[if_neg h5,if_neg (by omega)]
  ·rw[if_neg h4,if_neg h4]
   by_cases h10:i<10
   ·rw[if_pos h10,if_pos h10,if_neg (by omega)]
   ·rw[if_neg h10,if_neg h10]
    by_cases h14:i<14
    ·rw[if_pos h14,if_pos h14]
    ·rw[if_neg h14,if_neg h14,if_neg (by omega)]
theorem SF_val {h:List Int} {s:Int} {k:Nat} (hk:k<4) (h1:1≤rd h (k:Int)) (h6:rd h (k:Int)≤6) :
  (if (k:Int)<s - 1 then (((wl (SF h s k)).set k (rd h (k:Int))).set (3+rd h (k:Int)).toNat ((k:Int)+1)).set (13+rd h (k:Int)).toNat ((k:Int)+1) else ((wl (SF h s k)).set k (rd h (k:Int))).set (3+rd h (k:Int)).toNat ((k:Int)+1))=wl (SF h s (k+1)):=by
 generalize hv:rd h (k:Int)=v at h1 h6
 have key:∀ i,i<20→∀ b:Prop,[Decidable b]→(b ↔ (k:Int)<s - 1) →
   (if b∧i=(13+v).toNat then (k:Int)+1 else if i=(3+v).toNat then (k:Int)+1 else if i=k then v else SF h s k i)=SF h s (k+1) i:=by
  intro i hi b _ hb
  simp only[SF,own,via,hv]
  by_cases h4:i<4
  ·rw[if_neg (by omega),if_neg (by omega)]
   simp only[h4,if_true]
   by_cases e:i=k
   ·subst e;simp[hv]
   ·rw[if_neg e]
    by_cases h5:i<k
    ·rw[if_pos h5,if_pos (by omega)]
    ·rw[if_neg h5,if_neg (by omega)]
  ·simp only[h4,if_false]
   by_cases h10:i<10
   ·simp only[h10,if_true]
    rw[if_neg (by omega)]
    by_cases e:i=(3+v).toNat
    ·rw[if_pos e,if_pos (by omega)]
    ·rw[if_neg e,if_neg (by omega),if_neg (by omega)]
   ·simp only[h10,if_false]
    by_cases h14:i<14
    ·simp only[h14,if_true]
     rw[if_neg (by omega),if_neg (by omega),if_neg (by omega)]
    ·simp only[h14,if_false]
     by_cases e:i=(13+v).toNat
     ·by_cases hbb:b
      ·rw[if_pos ⟨hbb,e⟩,if_pos ⟨by omega,hb.mp hbb⟩]
      ·rw[if_neg (fun a=>hbb a.1),if_neg (by omega),if_neg (by omega),if_neg (fun a=>hbb (hb.mpr a.2))]
     ·rw[if_neg (fun a=>e a.2),if_neg (by omega),if_neg (by omega),if_neg (by omega)]
 by_cases hb:(k:Int)<s - 1
 ·rw[if_pos hb,wl_set _ (by omega),wl_set _ (by omega),wl_set _ (by omega)]
  refine wl_ext fun i hi => ?_
  have:=key i hi True (by simp[hb])
  simp only[true_and] at this
  exact this
 ·rw[if_neg hb,wl_set _ (by omega),wl_set _ (by omega)]
  refine wl_ext fun i hi => ?_
  have:=key i hi False (by simp[hb])
  simp only[false_and,if_false] at this
  exact this
theorem PF_zero {h:List Int} {s:Int} {k:Nat} (hk:k<4) (hz:rd h (k:Int)=0):wl (PF h s k)=wl (PF h s (k+1)):=by
 refine wl_ext fun i hi => ?_
 simp only[PF,own,via,cnt,hz]
 by_cases h4:i<4
 ·simp only[h4,if_true]
 ·simp only[h4,if_false]
  by_cases h10:i<10
  ·simp only[h10,if_true];rw[if_neg (by omega)]
  ·simp only[h10,if_false]
   by_cases h13:i<13
   ·simp only[h13,if_true];simp
   ·simp only[h13,if_false]
    by_cases h14:i<14
    ·simp only[h14,if_true]
    ·simp only[h14,if_false];rw[if_neg (by omega)]
theorem PF_val {h:List Int} {s:Int} {k:Nat} (hk:k<4) (h1:1≤rd h (k:Int)) (h6:rd h (k:Int)≤6) :
  (if (k:Int)<s - 1 then (((wl (PF h s k)).set (3+rd h (k:Int)).toNat ((k:Int)+1)).set (10+rd h (k:Int) % 3).toNat (cnt h k (rd h (k:Int) % 3)+1)).set (13+rd h (k:Int)).toNat ((k:Int)+1) else ((wl (PF h s k)).set (3+rd h (k:Int)).toNat ((k:Int)+1)).set (10+rd h (k:Int) % 3).toNat (cnt h k (rd h (k:Int) % 3)+1))=wl (PF h s (k+1)):=by
 generalize hv:rd h (k:Int)=v at h1 h6
 have key:∀ i,i<20→∀ b:Prop,[Decidable b]→(b ↔ (k:Int)<s - 1) →
   (if b∧i=(13+v).toNat then (k:Int)+1 else if i=(10+v % 3).toNat then cnt h k (v % 3)+1 else if i=(3+v).toNat then (k:Int)+1 else PF h s k i)=PF h s (k+1) i:=by
  intro i hi b _ hb
  simp only[PF,own,via,cnt,hv]
  by_cases h4:i<4
  ·rw[if_neg (by omega),if_neg (by omega),if_neg (by omega)]
   simp only[h4,if_true]
  ·simp only[h4,if_false]
   by_cases h10:i<10
   ·simp only[h10,if_true]
    rw[if_neg (by omega),if_neg (by omega)]
    by_cases e:i=(3+v).toNat
    ·rw[if_pos e,if_pos (by omega)]
    ·rw[if_neg e,if_neg (by omega)]
   ·simp only[h10,if_false]
    by_cases h13:i<13
    ·simp only[h13,if_true]
     rw[if_neg (by omega)]
     by_cases e:i=(10+v % 3).toNat
     ·have e2:(i:Int) - 10=v % 3:=by omega
      rw[if_pos e,e2,if_pos ⟨by omega,rfl⟩]
     ·rw[if_neg e,if_neg (by omega),if_neg (by omega)]
      omega
    ·simp only[h13,if_false]
     by_cases h14:i<14
     ·simp only[h14,if_true]
      rw[if_neg (by omega),if_neg (by omega),if_neg (by omega)]
     ·simp only[h14,if_false]
      by_cases e:i=(13+v).toNat
      ·by_cases hbb:b
       ·rw[if_pos ⟨hbb,e⟩,if_pos ⟨by omega,hb.mp hbb⟩]
       ·rw[if_neg (fun a=>hbb a.1),if_neg (by omega),if_neg (by omega),if_neg (fun a=>hbb (hb.mpr a.2))]
      ·rw[if_neg (fun a=>e a.2),if_neg (by omega),if_neg (by omega),if_neg (by omega)]
 by_cases hb:(k:Int)<s - 1
 ·rw[if_pos hb,wl_set _ (by omega),wl_set _ (by omega),wl_set _ (by omega)]
  refine wl_ext fun i hi => ?_
  have:=key i hi True (by simp[hb])
  simp only[true_and] at this
  exact this
 ·rw[if_neg hb,wl_set _ (by omega),wl_set _ (by omega)]
  refine wl_ext fun i hi => ?_
  have:=key i hi False (by simp[hb])
  simp only[false_and,if_false] at this
  exact this
theorem howMany_ev (h:List Int) (s c:Int) (hl:h.length=4) (hv:∀ i:Nat,i<4→okVal (rd h (i:Int))):Ev (fun k=>XF.f k h s c) (cnt h 4 c):=by
 simp only[XF.f]
 refine(back (n:=4) (Q:=fun i=>Ev (fun k=>XF.l0 k c (cnt h i c) (i:Int) h s) (cnt h 4 c)) ?_ (fun i hi ih => ?_) 0 (Nat.zero_le _))
 ·refine Ev.shift ?_
  have c1:¬ (((4:Nat):Int)<(h.length:Int)):=by omega
  simp only[XF.l0,c1,if_false]
  exact Ev.now _
 ·have c0:(0:Int)≤(i:Int):=by omega
  have c1:(i:Int)<(h.length:Int):=by omega
  have hb:=cnt_le h c i
  refine Ev.shift ?_
  simp only[cnt] at ih
  simp only[XF.l0,c0,c1,if_true,succ64 hi (by omega)]
  rcases hv i hi with hz | ⟨h1,h6⟩
  ·have hn:XB.f (rd h (i:Int))=some false:=by rw[hz];rfl
   simp only[hn,Option.bind_some,Bool.false_eq_true,if_false,Xan.f]
   rw[if_neg (by rw[hz];simp)] at ih
   rw[w64 (n:=cnt h i c+0) (by omega) (by omega)]
   exact ih
  ·obtain⟨_,_,_,_,_,f6,f7⟩:=place_facts h1 h6
   simp only[f6,f7,Option.bind_some,if_true,Xan.f]
   by_cases e:rd h (i:Int) % 3=c
   ·rw[if_pos ⟨by omega,e⟩] at ih
    simp only[e,beq_self_eq_true,if_true,Option.bind_some]
    rw[w64 (n:=cnt h i c+1) (by omega) (by omega)]
    exact ih
   ·rw[if_neg (fun a=>e a.2)] at ih
    simp only[beq_iff_eq,e,if_false,Option.bind_some]
    rw[w64 (n:=cnt h i c+0) (by omega) (by omega)]
    exact ih
noncomputable def wds (h:List Int) (s:Int):List Int:=if okB h 0 s=true then wl (WF h s) else []
theorem XbM (h:List Int) (s:Int) (hl:h.length≤1048576):Ev (fun k=>Xi.f k h s) (wds h s):=by
 simp only[Xi.f,wds]
 refine Ev.bind (Xby h s hl) ?_
 by_cases ok:okB h 0 s=true
 ·obtain⟨h4,s0,s5,hv⟩:=okB_elim ok
  simp only[ok,if_true,show (20:Nat)≤35184372088832 by decide]
  have hrep:List.replicate 20 (0:Int)=wl (SF h s 0):=by
   have:wl (SF h s 0)=wl (fun _=>0):=wl_ext fun i hi=>by
    simp only[SF,own,via,Nat.not_lt_zero,if_false]
    split<;>(try rfl) ; split<;>(try rfl) ; split<;>rfl
   rw[this];rfl
  rw[hrep]
  refine(back (n:=4) (Q:=fun k=>Ev (fun n=>Xi.l0 n (wl (SF h s k)) (k:Int) h s) (wl (WF h s))) ?_ (fun k hk ih => ?_) 0 (Nat.zero_le _))
  ·refine Ev.shift ?_
   simp only[Xi.l0,show ¬ (((4:Nat):Int)<4) by decide,if_false]
   have hc:∀ (c:Nat) (F:Nat→Int),c<3→Ev (fun n=>Xi.l1 n (wl (fun i=>if i=10+c then cnt h 4 (c:Int) else F i)) ((c+1:Nat):Int) h s) (wl (WF h s))→Ev (fun n=>Xi.l1 n (wl F) (c:Int) h s) (wl (WF h s)):=by
    intro c F hc hn
    obtain⟨f1,_⟩:=count_facts (c:=(c:Int)) (by omega) (by omega)
    refine Ev.shift ?_
    have c3:(c:Int)<3:=by omega
    simp only[Xi.l1,c3,if_true,f1,Option.bind_some]
    refine Ev.bind (howMany_ev h s (c:Int) h4 hv) ?_
    have c1:(0:Int)≤10+(c:Int):=by omega
    have c2:10+(c:Int)<((wl F).length:Int):=by rw[wl_length];omega
    have e:(10+(c:Int)).toNat=10+c:=by omega
    simp only[c1,c2,if_true,e,wl_set F (show 10+c<20 by omega),succ64 hc (by omega)]
    exact hn
   refine hc 0 _ (by decide) (hc 1 _ (by decide) (hc 2 _ (by decide) (Ev.shift ?_)))
   simp only[Xi.l1,show ¬ (((2+1:Nat):Int)<3) by decide,if_false,XaG.f,Option.bind_some,wl_length,show (0:Int)≤13 by decide,show (13:Int)<((20:Nat):Int) by decide,if_true,show (13:Int).toNat=13 from rfl,wl_set _ (show 13<20 by decide)]
   refine Ev.val (wl_ext fun i hi => ?_)
   simp only[SF,WF]
   by_cases i4:i<4
   ·rw[if_neg (by omega),if_neg (by omega),if_neg (by omega),if_neg (by omega)]
    simp only[i4,if_true]
   ·by_cases i10:i<10
    ·rw[if_neg (by omega),if_neg (by omega),if_neg (by omega),if_neg (by omega)]
     simp only[i4,i10,if_true,if_false]
    ·by_cases i13:i=13
     ·subst i13;simp
     ·by_cases i10':i=10
      ·subst i10';simp
      ·by_cases i11:i=11
       ·subst i11;simp
       ·by_cases i12:i=12
        ·subst i12;simp
        ·have:¬ i<14:=by omega
         have:¬ i<13:=by omega
         simp[*]
  ·have c0:(0:Int)≤(k:Int):=by omega
   have c4:(k:Int)<4:=by omega
   have c1:(k:Int)<(h.length:Int):=by omega
   have c2:(k:Int)<((wl (SF h s k)).length:Int):=by rw[wl_length];omega
   refine Ev.shift ?_
   simp only[Xi.l0,c0,c4,c1,c2,if_true,rowAt_fact hk,Option.bind_some,Int.toNat_natCast,succ64 hk (by omega)]
   rcases hv k hk with hz | ⟨h1,h6⟩
   ·simp only[hz,if_true]
    rw[SF_zero hk hz]
    exact ih
   ·obtain⟨f1,_,f3,_,_,_,_⟩:=place_facts h1 h6
    have hn:¬ rd h (k:Int)=0:=by omega
    have e1:(k:Int)+1=((k+1:Nat):Int):=by omega
    have ws:wrap64 (s - 1)=s - 1:=w64 (by omega) (by omega)
    have d0:0≤3+rd h (k:Int):=by omega
    have d1:3+rd h (k:Int)<(((20:Nat)):Int):=by omega
    have d2:0≤13+rd h (k:Int):=by omega
    have d3:13+rd h (k:Int)<(((20:Nat)):Int):=by omega
    have hS:=SF_val (h:=h) (s:=s) hk h1 h6
    simp only[hn,if_false,f1,f3,Option.bind_some,wl_length,d0,d1,d2,d3,if_true,ws]
    by_cases hb:(k:Int)<s - 1
    ·rw[if_pos hb] at hS
     simp only[hb,if_true,← e1]
     rw[hS]
     simp only[e1]
     exact ih
    ·rw[if_neg hb] at hS
     simp only[hb,if_false,← e1]
     rw[hS]
     simp only[e1]
     exact ih
 ·simp only[ok,if_false]
  exact Ev.now _
theorem XbN (h:List Int) (s:Int) (hl:h.length≤1048576):Ev (fun k=>XZ.f k h s) (wds h s):=by
 simp only[XZ.f,wds]
 refine Ev.bind (Xbz h s hl) ?_
 by_cases ok:okB h 0 s=true
 ·obtain⟨h4,s0,s5,hv⟩:=okB_elim ok
  simp only[ok,if_true,show (20:Nat)≤35184372088832 by decide,copy_int.f,Option.bind_some]
  have hrep:h.take (Nat.min h.length (List.replicate 20 (0:Int)).length) ++ (List.replicate 20 (0:Int)).drop (Nat.min h.length (List.replicate 20 (0:Int)).length)=wl (PF h s 0):=by
   match h,h4 with
   | [a,b,c,d],_=>rfl
  rw[hrep]
  have l4:(h.length:Int)=((4:Nat):Int):=by omega
  rw[l4]
  refine(back (n:=4) (Q:=fun k=>Ev (fun n=>XZ.l0 n (wl (PF h s k)) h ((4:Nat):Int) (k:Int) h s) (wl (WF h s))) ?_ (fun k hk ih => ?_) 0 (Nat.zero_le _))
  ·refine Ev.shift ?_
   simp only[XZ.l0,Int.lt_irrefl,if_false,XaH.f,Option.bind_some,wl_length,show (0:Int)≤13 by decide,show (13:Int)<((20:Nat):Int) by decide,if_true,show (13:Int).toNat=13 from rfl,wl_set _ (show 13<20 by decide)]
   refine Ev.val (wl_ext fun i hi => ?_)
   simp only[PF,WF]
   by_cases i13:i=13
   ·subst i13;simp
   ·rw[if_neg i13]
    by_cases i14:i<14
    ·have:i<13:=by omega
     simp only[this,i14,if_true]
    ·simp only[i14,if_false]
  ·have c0:(0:Int)≤(k:Int):=by omega
   have c4:(k:Int)<((4:Nat):Int):=by omega
   have c1:(k:Int)<(h.length:Int):=by omega
   refine Ev.shift ?_
   simp only[XZ.l0,c0,c4,c1,if_true,succ64 hk (by omega)]
   rcases hv k hk with hz | ⟨h1,h6⟩
   ·simp only[hz,if_true]
    rw[PF_zero hk hz]
    exact ih
   ·obtain⟨_,f2,_,f4,f5,_,_⟩:=place_facts h1 h6
    obtain⟨_,g2⟩:=count_facts (c:=rd h (k:Int) % 3) (by omega) (by omega)
    have hn:¬ rd h (k:Int)=0:=by omega
    have e1:(k:Int)+1=((k+1:Nat):Int):=by omega
    have ws:wrap64 (s - 1)=s - 1:=w64 (by omega) (by omega)
    have d0:0≤3+rd h (k:Int):=by omega
    have d1:3+rd h (k:Int)<(((20:Nat)):Int):=by omega
    have d2:0≤13+rd h (k:Int):=by omega
    have d3:13+rd h (k:Int)<(((20:Nat)):Int):=by omega
    have d4:0≤10+rd h (k:Int) % 3:=by omega
    have d5:10+rd h (k:Int) % 3<(((20:Nat)):Int):=by omega
    have hS:=PF_val (h:=h) (s:=s) hk h1 h6
    have hcb:=cnt_le h (rd h (k:Int) % 3) k
    have hrd:rd ((wl (PF h s k)).set (3+rd h (k:Int)).toNat ((k:Int)+1)) (10+rd h (k:Int) % 3)=cnt h k (rd h (k:Int) % 3):=by
     rw[wl_set _ (by omega),wl_rd _ (by omega) (by omega),if_neg (by omega)]
     simp only[PF]
     rw[if_neg (by omega),if_neg (by omega),if_pos (by omega)]
     congr 1
     omega
    have hw:wrap64 (cnt h k (rd h (k:Int) % 3)+1)=cnt h k (rd h (k:Int) % 3)+1:=w64 (by omega) (by omega)
    simp only[hn,if_false,f2,f4,f5,g2,Option.bind_some,wl_length,d0,d1,d2,d3,d4,d5,if_true,ws,← e1,hrd,hw]
    by_cases hb:(k:Int)<s - 1
    ·rw[if_pos hb] at hS
     simp only[hb,if_true]
     rw[hS]
     simp only[e1]
     exact ih
    ·rw[if_neg hb] at hS
     simp only[hb,if_false]
     rw[hS]
     simp only[e1]
     exact ih
 ·simp only[ok,if_false]
  exact Ev.now _
theorem wds_len (h:List Int) (s:Int):(wds h s).length=20 ∨ wds h s=[]:=by
 unfold wds
 split
 ·left;exact wl_length _
 ·right;rfl
end Go.Proofs.YtmljebgideecjaaGreat.P2
