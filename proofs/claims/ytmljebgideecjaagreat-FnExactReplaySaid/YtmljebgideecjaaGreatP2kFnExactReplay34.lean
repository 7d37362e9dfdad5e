/- A part of the proof of the law FnExactReplay: texts of this seat, merged (words, printed functions of the program, plain lemmas). Conditions: none of its own. -/
import Derived.Test.YtmljebgideecjaaGreatP2kFnExactReplay24
import Derived.Test.YtmljebgideecjaaGreatP2kFnExactReplay29
import Derived.Test.YtmljebgideecjaaGreatP2kFnExactReplay31
import Derived.Test.YtmljebgideecjaaGreatP2kFnExactReplay32
import Derived.Test.YtmljebgideecjaaGreatP2kFnExactReplay33
set_option linter.unusedSimpArgs false
set_option linter.unusedVariables false
set_option maxHeartbeats 8000000
set_option maxRecDepth 100000
namespace Go.Proofs.YtmljebgideecjaaGreat.P2
open Go.Proofs.YtmljebgideecjaaGreatZ Go.RowKit Go.Proofs.YtmljebgideecjaaGreatW.PrintWords Go.Proofs.YtmljebgideecjaaGreatW.PrintLast Go.Proofs.YtmljebgideecjaaGreatW.PrintMore
attribute [local go_sem] max2_int min2_int max_two min_two max_three min_three max_four min_four   -- for this text's walks alone
def XV.j0:Nat→Bool→List Int→Int→Int→Int→Int→Int→List Int→Option (Bool)
 | 0,_,_,_,_,_,_,_,_=>none
 | k+1,x16,x102000,x102001,x103000,x103001,x103002,x104000,x104001=>if x16=true then (some false) else (if x104000=0 then ((Xm.f k x102000 x102001 x103000 x103001 x103002).bind fun bt106=>(if bt106.2=true then ((XD.f k bt106.1 x104001).bind fun t110=>(some t110)) else (some false))) else (if (x104001.length:Int)=0 then ((Xac.f k x102000 x102001 x103000 x103001 x103002 x104000).bind fun t111=>(some t111)) else (some false)))
def XV.f (k:Nat) (l0_0:List Int) (a0_1:Int) (a1_0:Int) (a1_1:Int) (a1_2:Int) (a2_0:Int) (l2_1:List Int):Option (Bool):=(Xq.f k l0_0 a0_1).bind fun t104=>(if t104=true then ((XN.f k a1_0 a1_1 a1_2).bind fun t105=>(XV.j0 k (!t105) l0_0 a0_1 a1_0 a1_1 a1_2 a2_0 l2_1)) else (XV.j0 k true l0_0 a0_1 a1_0 a1_1 a1_2 a2_0 l2_1))
theorem XV.calls (k:Nat) (A0_0:Option Addr) (c0_0:Nat) (l0_0:List Int) (a0_1:Int) (a1_0:Int) (a1_1:Int) (a1_2:Int) (a2_0:Int) (A2_1:Option Addr) (c2_1:Nat) (l2_1:List Int) (r:Bool) (w:World) (h0_0:Rw (Kd.int .i64) w A0_0 c0_0 l0_0) (h2_1:Rw (Kd.int .i64) w A2_1 c2_1 l2_1) (H:XV.f k l0_0 a0_1 a1_0 a1_1 a1_2 a2_0 l2_1=some r) :
  Calls Tryz.prog 80 #[.agg #[.slice A0_0 l0_0.length c0_0,.int .i64 a0_1],.agg #[.int .i64 a1_0,.int .i64 a1_1,.int .i64 a1_2],.agg #[.int .i64 a2_0,.slice A2_1 l2_1.length c2_1]] w fun e w'=>e = .returned (.bool r)∧Below w.heap.size w w':=by
 have hu41:=Tryz.underlying41
 have hu69:=Tryz.underlying69
 have hu71:=Tryz.underlying71
 obtain⟨HR0_0,HC0_0⟩:=h0_0
 obtain⟨HR2_1,HC2_1⟩:=h2_1
 have HB:=aM (Below.refl w.heap.size w)
 unfold XV.f at H
 have HC4:=aM H
 clear H
 go_enter Tryz.func80,Tryz.ntmps80
 go_upto_region 1 with(first | ((with_reducible refine gate_dst (N:=3) rfl ?_);refine boxE 3 #[.slice A0_0 l0_0.length c0_0,.int .i64 a0_1] 41 ?_;intro gbz1 hg wz1 hbox hb;have BKz1:=aM (hbox);have GWz1:=aG hg HB;replace HB:=aS HB hb;clear hb hbox hg) | ((with_reducible refine gate_dst (N:=4) rfl ?_);refine boxE 4 #[.int .i64 a1_0,.int .i64 a1_1,.int .i64 a1_2] 69 ?_;intro gbz2 hg wz2 hbox hb;have BKz2:=aM (hbox);have GWz2:=aG hg HB;have NBz1:=aL hg BKz1;have NBz2:=aR hg BKz1;replace BKz1:=aB BKz1 hb;replace HB:=aS HB hb;clear hb hbox hg) | ((with_reducible refine gate_dst (N:=5) rfl ?_);refine boxE 5 #[.int .i64 a2_0,.slice A2_1 l2_1.length c2_1] 71 ?_;intro gbz3 hg wz3 hbox hb;have BKz3:=aM (hbox);have GWz3:=aG hg HB;have NBz3:=aL hg BKz1;have NBz4:=aR hg BKz1;have NBz5:=aL hg BKz2;have NBz6:=aR hg BKz2;replace BKz1:=aB BKz1 hb;replace BKz2:=aB BKz2 hb;replace HB:=aS HB hb;clear hb hbox hg))
 (try simp only[Act.put,List.setIfInBounds_toArray,List.set_cons_zero,List.set_cons_succ])
 go_cut [16] (fun vz1 wc=>∃ (kq:Nat) (x16_3:Bool),vz1 = .bool x16_3∧Aside0 (XV.j0 kq x16_3 l0_0 a0_1 a1_0 a1_1 a1_2 a2_0 l2_1=some r)∧Aside0 (kq≤k)∧Aside0 (wc.heap[gbz1]? = some (.cells #[(.slice A0_0 l0_0.length c0_0),.int .i64 a0_1] 41 (0,0)))∧Aside0 (wc.heap[gbz2]? = some (.cells #[.int .i64 a1_0,.int .i64 a1_1,.int .i64 a1_2] 69 (0,0)))∧Aside0 (wc.heap[gbz3]? = some (.cells #[.int .i64 a2_0,(.slice A2_1 l2_1.length c2_1)] 71 (0,0)))∧Aside0 (Below w.heap.size w wc))
 case first =>
  have H:=HC4.out
  clear HC4
  replace H:=bE H;obtain⟨t104,A8,H⟩:=H
  cases t104
  case false =>
   rw[if_neg nft] at H
   have H':=aM H
   clear H
   have hnby1:=NBz1.out
   have hncy1:=NBz2.out
   have hnby2:=NBz3.out
   have hncy2:=NBz4.out
   have hczy1:=cZ2 BKz1.out
   go_wp2_with (refine gB 93 10 Tryz.func93 (Xq.calls _ _ _ _ _ _ _ (rW HR0_0 HB HC0_0) A8.out) ?_;intro wy1 hb;replace BKz1:=aB BKz1 hb;replace BKz2:=aB BKz2 hb;replace BKz3:=aB BKz3 hb;replace HB:=aS HB hb;clear hb)
   go_meet
   case rel=>exact⟨_,(true),rS,H',⟨by first | omega | exact Nat.le_refl _⟩,⟨(bX BKz1.out)⟩,⟨(bX BKz2.out)⟩,⟨(bX BKz3.out)⟩,⟨(hX HB.out)⟩⟩
  rw[if_pos rfl] at H
  replace H:=bE H;obtain⟨t105,A10,H⟩:=H
  have H':=aM H
  clear H
  have hnby1:=NBz1.out
  have hncy1:=NBz2.out
  have hnby2:=NBz3.out
  have hncy2:=NBz4.out
  have hczy1:=cZ2 BKz1.out
  go_wp2_with (first | (refine gB 93 10 Tryz.func93 (Xq.calls _ _ _ _ _ _ _ (rW HR0_0 HB HC0_0) A8.out) ?_;intro wy1 hb;replace BKz1:=aB BKz1 hb;replace BKz2:=aB BKz2 hb;replace BKz3:=aB BKz3 hb;replace HB:=aS HB hb;clear hb;have hnby3:=nB NBz5 NBz6;have hczy3:=cZ3 BKz2.out) | (go_at_call 138;(with_reducible refine(XN.calls _ _ _ _ _ _ A10.out).mono ?_);rintro e wy2 ⟨rfl,hb⟩;replace BKz1:=aB BKz1 hb;replace BKz2:=aB BKz2 hb;replace BKz3:=aB BKz3 hb;replace HB:=aS HB hb;clear hb))
  go_meet
  case rel=>exact⟨_,(!t105),rS,H',⟨by first | omega | exact Nat.le_refl _⟩,⟨(bX BKz1.out)⟩,⟨(bX BKz2.out)⟩,⟨(bX BKz3.out)⟩,⟨(hX HB.out)⟩⟩
 case rest =>
  clear HC4
  obtain⟨kq,x16_3,rfl,HA,HJy1,BKz1,BKz2,BKz3,HB⟩:=hcut
  cases kq with
  | zero=>exact absurd HA.out (by simp[XV.j0])
  | succ kj3 =>
   have H:=HA.out
   clear HA
   simp only[XV.j0] at H
   cases x16_3
   case true =>
    rw[if_pos rfl] at H
    exact fR
   rw[if_neg nft] at H
   revert H;refine eN ?_ ?_<;>intro c23b0 c23b1 H
   ·by_cases c43:(l2_1.length:Int)=0
    case neg =>
     rw[if_neg c43] at H
     obtain⟨c43b0,c43b1⟩:=eqF c43
     have c43b2:¬ (l2_1=[]):=fun h_=>c43 (by rw[h_];rfl)
     obtain rfl:=sI H
     have hnbx1:=NBz4.out
     have hncx1:=NBz3.out
     have hnbx2:=NBz6.out
     have hncx2:=NBz5.out
     have hczx1:=cZ2 BKz3.out
     exact fS
    rw[if_pos c43] at H
    obtain⟨c43b0,c43b1⟩:=eqT c43
    clear c43
    replace H:=bE H;obtain⟨t111,A44,H⟩:=H
    obtain rfl:=sI H
    have hnbx1:=NBz4.out
    have hncx1:=NBz3.out
    have hnbx2:=NBz6.out
    have hncx2:=NBz5.out
    have hczx1:=cZ2 BKz3.out
    have hnbx3:=NBz1.out
    have hncx3:=NBz2.out
    have hczx3:=cZ2 BKz1.out
    have hczx5:=cZ3 BKz2.out
    go_wp2_with (go_at_call 139;(with_reducible refine(Xac.calls _ _ _ _ _ _ _ _ _ _ _ (rW HR0_0 HB HC0_0) A44.out).mono ?_);rintro e wx1 ⟨rfl,hb⟩;replace BKz1:=aB BKz1 hb;replace BKz2:=aB BKz2 hb;replace BKz3:=aB BKz3 hb;replace HB:=aS HB hb;clear hb)
    go_ret
    exact⟨rE,(hX HB.out)⟩
   replace H:=bE H;obtain⟨⟨t106,t109⟩,A24,H⟩:=H
   try dsimp only at H
   cases t109
   case false =>
    rw[if_neg nft] at H
    obtain rfl:=sI H
    have hnbx1:=NBz4.out
    have hncx1:=NBz3.out
    have hnbx2:=NBz6.out
    have hncx2:=NBz5.out
    have hczx1:=cZ2 BKz3.out
    have hnbx3:=NBz1.out
    have hncx3:=NBz2.out
    have hczx3:=cZ2 BKz1.out
    have hczx5:=cZ3 BKz2.out
    go_wp2_with (refine goesM 140 34 Tryz.func140 #[.agg #[.slice A0_0 l0_0.length c0_0,.int .i64 a0_1],.agg #[.int .i64 a1_0,.int .i64 a1_1,.int .i64 a1_2]] ?_;refine(Xm.calls _ _ _ _ _ _ _ _ _ _ _ (rW HR0_0 HB HC0_0) A24.out).mono ?_;rintro e wx1 ⟨vx1,rfl,hox1,hb⟩;refine⟨_,rfl,?_⟩;have HOx1:=aM (Kd.R_lower hox1 (below_size (hX HB.out)));replace BKz1:=aB BKz1 hb;replace BKz2:=aB BKz2 hb;replace BKz3:=aB BKz3 hb;replace HB:=aS HB hb;clear hb hox1)
    go_ret
    exact⟨rE,(hX HB.out)⟩
   rw[if_pos rfl] at H
   replace H:=bE H;obtain⟨t110,A26,H⟩:=H
   obtain rfl:=sI H
   have hnbx1:=NBz4.out
   have hncx1:=NBz3.out
   have hnbx2:=NBz6.out
   have hncx2:=NBz5.out
   have hczx1:=cZ2 BKz3.out
   have hnbx3:=NBz1.out
   have hncx3:=NBz2.out
   have hczx3:=cZ2 BKz1.out
   have hczx5:=cZ3 BKz2.out
   go_wp2_with (first | (refine goesM 140 34 Tryz.func140 #[.agg #[.slice A0_0 l0_0.length c0_0,.int .i64 a0_1],.agg #[.int .i64 a1_0,.int .i64 a1_1,.int .i64 a1_2]] ?_;refine(Xm.calls _ _ _ _ _ _ _ _ _ _ _ (rW HR0_0 HB HC0_0) A24.out).mono ?_;rintro e wx1 ⟨vx1,rfl,hox1,hb⟩;refine⟨_,rfl,?_⟩;have HOx1:=aM (Kd.R_lower hox1 (below_size (hX HB.out)));replace BKz1:=aB BKz1 hb;replace BKz2:=aB BKz2 hb;replace BKz3:=aB BKz3 hb;replace HB:=aS HB hb;clear hb hox1;have hczx8:=cZ2 BKz3.out;obtain⟨Aox1,cox1,eox1⟩:=Kd.R_slice HOx1.out;subst eox1) | (go_at_call 84;(with_reducible refine(XD.calls _ _ _ _ _ _ _ _ _ (rw2 (cX (Kd.R_reads' HOx1.out).2.2) ((Kd.R_reads' HOx1.out).2.1)) (rW HR2_1 HB HC2_1) A26.out).mono ?_);rintro e w' ⟨rfl,⟨nd,rfl⟩⟩))
   go_ret
   exact⟨rE,(hX HB.out)⟩
def Xaz.f (k:Nat) (l0:List (S162))  : Option (Bool):=(XH.f k l0).bind fun t101=>(some (decide (t101 ≥ 0)))
theorem Xaz.calls (k:Nat) (A0:Option Addr) (c0:Nat) (l0:List (S162)) (r:Bool) (w:World) (h0:Rw k162 w A0 c0 l0) (H:Xaz.f k l0=some r) :
  Calls Tryz.prog 169 #[.slice A0 l0.length c0,.func (.func 170) #[] #[]] w fun e w'=>e = .returned (.bool r)∧Below w.heap.size w w':=by
 obtain⟨HR0,HC0⟩:=h0
 have HB:=aM (Below.refl w.heap.size w)
 unfold Xaz.f at H
 replace H:=bE H;obtain⟨t101,A3,H⟩:=H
 obtain rfl:=sI H
 go_enter Tryz.func169,Tryz.ntmps169
 go_wp2_with (refine gB 208 7 Tryz.func208 (XH.calls _ _ _ _ _ _ (rw2 (cX HR0.out) HC0.out) A3.out) ?_;intro wz1 hb;replace HB:=aS HB hb;clear hb)
 go_ret
 exact⟨rE,(hX HB.out)⟩
def XaD.f (k:Nat) (l0:List (S69))  : Option (Bool):=(XS.f k l0).bind fun t101=>(some (decide (t101 ≥ 0)))
theorem XaD.calls (k:Nat) (A0:Option Addr) (c0:Nat) (l0:List (S69)) (r:Bool) (w:World) (h0:Rw k69 w A0 c0 l0) (H:XaD.f k l0=some r) :
  Calls Tryz.prog 178 #[.slice A0 l0.length c0,.func (.func 179) #[] #[]] w fun e w'=>e = .returned (.bool r)∧Below w.heap.size w w':=by
 obtain⟨HR0,HC0⟩:=h0
 have HB:=aM (Below.refl w.heap.size w)
 unfold XaD.f at H
 replace H:=bE H;obtain⟨t101,A3,H⟩:=H
 obtain rfl:=sI H
 go_enter Tryz.func178,Tryz.ntmps178
 go_wp2_with (refine gB 210 7 Tryz.func210 (XS.calls _ _ _ _ _ _ (rw2 (cX HR0.out) HC0.out) A3.out) ?_;intro wz1 hb;replace HB:=aS HB hb;clear hb)
 go_ret
 exact⟨rE,(hX HB.out)⟩
def XW.j0:Nat→Bool→List Int→Int→Int→Int→Int→Int→List Int→Option (Bool)
 | 0,_,_,_,_,_,_,_,_=>none
 | k+1,x16,x102000,x102001,x103000,x103001,x103002,x104000,x104001=>if x16=true then (some false) else (if x104000=0 then ((Xi.f k x102000 x102001 x103000 x103001 x103002).bind fun bt106=>(if bt106.2=true then ((slices_Equal_int_int.f k bt106.1 x104001).bind fun t110=>(some t110)) else (some false))) else (if (x104001.length:Int)=0 then ((Xj.f k x102000 x102001 x103000 x103001 x103002 x104000).bind fun t111=>(some t111)) else (some false)))
def XW.f (k:Nat) (l0_0:List Int) (a0_1:Int) (a1_0:Int) (a1_1:Int) (a1_2:Int) (a2_0:Int) (l2_1:List Int):Option (Bool):=(X2.f k l0_0 a0_1).bind fun t104=>(if t104=true then ((Xt.f k a1_0 a1_1 a1_2).bind fun t105=>(XW.j0 k (!t105) l0_0 a0_1 a1_0 a1_1 a1_2 a2_0 l2_1)) else (XW.j0 k true l0_0 a0_1 a1_0 a1_1 a1_2 a2_0 l2_1))
theorem XW.calls (k:Nat) (A0_0:Option Addr) (c0_0:Nat) (l0_0:List Int) (a0_1:Int) (a1_0:Int) (a1_1:Int) (a1_2:Int) (a2_0:Int) (A2_1:Option Addr) (c2_1:Nat) (l2_1:List Int) (r:Bool) (w:World) (h0_0:Rw (Kd.int .i64) w A0_0 c0_0 l0_0) (h2_1:Rw (Kd.int .i64) w A2_1 c2_1 l2_1) (H:XW.f k l0_0 a0_1 a1_0 a1_1 a1_2 a2_0 l2_1=some r) :
  Calls Tryz.prog 82 #[.agg #[.slice A0_0 l0_0.length c0_0,.int .i64 a0_1],.agg #[.int .i64 a1_0,.int .i64 a1_1,.int .i64 a1_2],.agg #[.int .i64 a2_0,.slice A2_1 l2_1.length c2_1]] w fun e w'=>e = .returned (.bool r)∧Below w.heap.size w w':=by
 have hu41:=Tryz.underlying41
 have hu69:=Tryz.underlying69
 have hu71:=Tryz.underlying71
 obtain⟨HR0_0,HC0_0⟩:=h0_0
 obtain⟨HR2_1,HC2_1⟩:=h2_1
 have HB:=aM (Below.refl w.heap.size w)
 unfold XW.f at H
 have HC4:=aM H
 clear H
 go_enter Tryz.func82,Tryz.ntmps82
 go_upto_region 1 with(first | ((with_reducible refine gate_dst (N:=3) rfl ?_);refine boxE 3 #[.slice A0_0 l0_0.length c0_0,.int .i64 a0_1] 41 ?_;intro gbz1 hg wz1 hbox hb;have BKz1:=aM (hbox);have GWz1:=aG hg HB;replace HB:=aS HB hb;clear hb hbox hg) | ((with_reducible refine gate_dst (N:=4) rfl ?_);refine boxE 4 #[.int .i64 a1_0,.int .i64 a1_1,.int .i64 a1_2] 69 ?_;intro gbz2 hg wz2 hbox hb;have BKz2:=aM (hbox);have GWz2:=aG hg HB;have NBz1:=aL hg BKz1;have NBz2:=aR hg BKz1;replace BKz1:=aB BKz1 hb;replace HB:=aS HB hb;clear hb hbox hg) | ((with_reducible refine gate_dst (N:=5) rfl ?_);refine boxE 5 #[.int .i64 a2_0,.slice A2_1 l2_1.length c2_1] 71 ?_;intro gbz3 hg wz3 hbox hb;have BKz3:=aM (hbox);have GWz3:=aG hg HB;have NBz3:=aL hg BKz1;have NBz4:=aR hg BKz1;have NBz5:=aL hg BKz2;have NBz6:=aR hg BKz2;replace BKz1:=aB BKz1 hb;replace BKz2:=aB BKz2 hb;replace HB:=aS HB hb;clear hb hbox hg))
 (try simp only[Act.put,List.setIfInBounds_toArray,List.set_cons_zero,List.set_cons_succ])
 go_cut [16] (fun vz1 wc=>∃ (kq:Nat) (x16_3:Bool),vz1 = .bool x16_3∧Aside0 (XW.j0 kq x16_3 l0_0 a0_1 a1_0 a1_1 a1_2 a2_0 l2_1=some r)∧Aside0 (kq≤k)∧Aside0 (wc.heap[gbz1]? = some (.cells #[(.slice A0_0 l0_0.length c0_0),.int .i64 a0_1] 41 (0,0)))∧Aside0 (wc.heap[gbz2]? = some (.cells #[.int .i64 a1_0,.int .i64 a1_1,.int .i64 a1_2] 69 (0,0)))∧Aside0 (wc.heap[gbz3]? = some (.cells #[.int .i64 a2_0,(.slice A2_1 l2_1.length c2_1)] 71 (0,0)))∧Aside0 (Below w.heap.size w wc))
 case first =>
  have H:=HC4.out
  clear HC4
  replace H:=bE H;obtain⟨t104,A8,H⟩:=H
  cases t104
  case false =>
   rw[if_neg nft] at H
   have H':=aM H
   clear H
   have hnby1:=NBz1.out
   have hncy1:=NBz2.out
   have hnby2:=NBz3.out
   have hncy2:=NBz4.out
   have hczy1:=cZ2 BKz1.out
   go_wp2_with (refine gB 103 10 Tryz.func103 (X2.calls _ _ _ _ _ _ _ (rW HR0_0 HB HC0_0) A8.out) ?_;intro wy1 hb;replace BKz1:=aB BKz1 hb;replace BKz2:=aB BKz2 hb;replace BKz3:=aB BKz3 hb;replace HB:=aS HB hb;clear hb)
   go_meet
   case rel=>exact⟨_,(true),rS,H',⟨by first | omega | exact Nat.le_refl _⟩,⟨(bX BKz1.out)⟩,⟨(bX BKz2.out)⟩,⟨(bX BKz3.out)⟩,⟨(hX HB.out)⟩⟩
  rw[if_pos rfl] at H
  replace H:=bE H;obtain⟨t105,A10,H⟩:=H
  have H':=aM H
  clear H
  have hnby1:=NBz1.out
  have hncy1:=NBz2.out
  have hnby2:=NBz3.out
  have hncy2:=NBz4.out
  have hczy1:=cZ2 BKz1.out
  go_wp2_with (first | (refine gB 103 10 Tryz.func103 (X2.calls _ _ _ _ _ _ _ (rW HR0_0 HB HC0_0) A8.out) ?_;intro wy1 hb;replace BKz1:=aB BKz1 hb;replace BKz2:=aB BKz2 hb;replace BKz3:=aB BKz3 hb;replace HB:=aS HB hb;clear hb;have hnby3:=nB NBz5 NBz6;have hczy3:=cZ3 BKz2.out) | (go_at_call 105;(with_reducible refine(Xt.calls _ _ _ _ _ _ A10.out).mono ?_);rintro e wy2 ⟨rfl,hb⟩;replace BKz1:=aB BKz1 hb;replace BKz2:=aB BKz2 hb;replace BKz3:=aB BKz3 hb;replace HB:=aS HB hb;clear hb))
  go_meet
  case rel=>exact⟨_,(!t105),rS,H',⟨by first | omega | exact Nat.le_refl _⟩,⟨(bX BKz1.out)⟩,⟨(bX BKz2.out)⟩,⟨(bX BKz3.out)⟩,⟨(hX HB.out)⟩⟩
 case rest =>
  clear HC4
  obtain⟨kq,x16_3,rfl,HA,HJy1,BKz1,BKz2,BKz3,HB⟩:=hcut
  cases kq with
  | zero=>exact absurd HA.out (by simp[XW.j0])
  | succ kj3 =>
   have H:=HA.out
   clear HA
   simp only[XW.j0] at H
   cases x16_3
   case true =>
    rw[if_pos rfl] at H
    exact fR
   rw[if_neg nft] at H
   revert H;refine eN ?_ ?_<;>intro c23b0 c23b1 H
   ·by_cases c43:(l2_1.length:Int)=0
    case neg =>
     rw[if_neg c43] at H
     obtain⟨c43b0,c43b1⟩:=eqF c43
     have c43b2:¬ (l2_1=[]):=fun h_=>c43 (by rw[h_];rfl)
     obtain rfl:=sI H
     have hnbx1:=NBz4.out
     have hncx1:=NBz3.out
     have hnbx2:=NBz6.out
     have hncx2:=NBz5.out
     have hczx1:=cZ2 BKz3.out
     exact fS
    rw[if_pos c43] at H
    obtain⟨c43b0,c43b1⟩:=eqT c43
    clear c43
    replace H:=bE H;obtain⟨t111,A44,H⟩:=H
    obtain rfl:=sI H
    have hnbx1:=NBz4.out
    have hncx1:=NBz3.out
    have hnbx2:=NBz6.out
    have hncx2:=NBz5.out
    have hczx1:=cZ2 BKz3.out
    have hnbx3:=NBz1.out
    have hncx3:=NBz2.out
    have hczx3:=cZ2 BKz1.out
    have hczx5:=cZ3 BKz2.out
    go_wp2_with (go_at_call 141;(with_reducible refine(Xj.calls _ _ _ _ _ _ _ _ _ _ _ (rW HR0_0 HB HC0_0) A44.out).mono ?_);rintro e wx1 ⟨rfl,hb⟩;replace BKz1:=aB BKz1 hb;replace BKz2:=aB BKz2 hb;replace BKz3:=aB BKz3 hb;replace HB:=aS HB hb;clear hb)
    go_ret
    exact⟨rE,(hX HB.out)⟩
   replace H:=bE H;obtain⟨⟨t106,t109⟩,A24,H⟩:=H
   try dsimp only at H
   cases t109
   case false =>
    rw[if_neg nft] at H
    obtain rfl:=sI H
    have hnbx1:=NBz4.out
    have hncx1:=NBz3.out
    have hnbx2:=NBz6.out
    have hncx2:=NBz5.out
    have hczx1:=cZ2 BKz3.out
    have hnbx3:=NBz1.out
    have hncx3:=NBz2.out
    have hczx3:=cZ2 BKz1.out
    have hczx5:=cZ3 BKz2.out
    go_wp2_with (refine goesM 142 34 Tryz.func142 #[.agg #[.slice A0_0 l0_0.length c0_0,.int .i64 a0_1],.agg #[.int .i64 a1_0,.int .i64 a1_1,.int .i64 a1_2]] ?_;refine(Xi.calls kj3 (fun k_=>k_<w.heap.size) _ _ l0_0 a0_1 a1_0 a1_1 a1_2 t106 false _ (by exact Kd.V_mk HC0_0.out (Kd.F_below (Kd.C_F (Kd.heap_int .i64) HR0_0.out) (hX HB.out))) A24.out).mono ?_;rintro e wx1 ⟨vx1,rfl,hox1,hb⟩;refine⟨_,rfl,?_⟩;have HOx1:=aM (Kd.V_lower (Kd.V_mono (ok':=fun k_=>k_ ≠ gbz1∧k_ ≠ gbz2∧k_ ≠ gbz3) hox1 (fun k_ hk_=>⟨Or.elim hk_ (fun hs_=>fun e_=>Nat.not_le.2 hs_ (by rw[e_];exact GWz1.out)) (fun hn_=>(Kd.freshB (g:=gbz1) (o:=.cells #[.slice A0_0 l0_0.length c0_0,.int .i64 a0_1] 41 (0,0)) (bX BKz1.out) k_ hn_)),Or.elim hk_ (fun hs_=>fun e_=>Nat.not_le.2 hs_ (by rw[e_];exact GWz2.out)) (fun hn_=>(Kd.freshB (g:=gbz2) (o:=.cells #[.int .i64 a1_0,.int .i64 a1_1,.int .i64 a1_2] 69 (0,0)) (bX BKz2.out) k_ hn_)),Or.elim hk_ (fun hs_=>fun e_=>Nat.not_le.2 hs_ (by rw[e_];exact GWz3.out)) (fun hn_=>(Kd.freshB (g:=gbz3) (o:=.cells #[.int .i64 a2_0,.slice A2_1 l2_1.length c2_1] 71 (0,0)) (bX BKz3.out) k_ hn_))⟩)) (below_size (hX HB.out)));replace BKz1:=aB BKz1 hb;replace BKz2:=aB BKz2 hb;replace BKz3:=aB BKz3 hb;replace HB:=aS HB hb;clear hb hox1)
    go_ret
    exact⟨rE,(hX HB.out)⟩
   rw[if_pos rfl] at H
   replace H:=bE H;obtain⟨t110,A26,H⟩:=H
   obtain rfl:=sI H
   have hnbx1:=NBz4.out
   have hncx1:=NBz3.out
   have hnbx2:=NBz6.out
   have hncx2:=NBz5.out
   have hczx1:=cZ2 BKz3.out
   have hnbx3:=NBz1.out
   have hncx3:=NBz2.out
   have hczx3:=cZ2 BKz1.out
   have hczx5:=cZ3 BKz2.out
   go_wp2_with (first | (refine goesM 142 34 Tryz.func142 #[.agg #[.slice A0_0 l0_0.length c0_0,.int .i64 a0_1],.agg #[.int .i64 a1_0,.int .i64 a1_1,.int .i64 a1_2]] ?_;refine(Xi.calls kj3 (fun k_=>k_<w.heap.size) _ _ l0_0 a0_1 a1_0 a1_1 a1_2 t106 true _ (by exact Kd.V_mk HC0_0.out (Kd.F_below (Kd.C_F (Kd.heap_int .i64) HR0_0.out) (hX HB.out))) A24.out).mono ?_;rintro e wx1 ⟨vx1,rfl,hox1,hb⟩;refine⟨_,rfl,?_⟩;have HOx1:=aM (Kd.V_lower (Kd.V_mono (ok':=fun k_=>k_ ≠ gbz1∧k_ ≠ gbz2∧k_ ≠ gbz3) hox1 (fun k_ hk_=>⟨Or.elim hk_ (fun hs_=>fun e_=>Nat.not_le.2 hs_ (by rw[e_];exact GWz1.out)) (fun hn_=>(Kd.freshB (g:=gbz1) (o:=.cells #[.slice A0_0 l0_0.length c0_0,.int .i64 a0_1] 41 (0,0)) (bX BKz1.out) k_ hn_)),Or.elim hk_ (fun hs_=>fun e_=>Nat.not_le.2 hs_ (by rw[e_];exact GWz2.out)) (fun hn_=>(Kd.freshB (g:=gbz2) (o:=.cells #[.int .i64 a1_0,.int .i64 a1_1,.int .i64 a1_2] 69 (0,0)) (bX BKz2.out) k_ hn_)),Or.elim hk_ (fun hs_=>fun e_=>Nat.not_le.2 hs_ (by rw[e_];exact GWz3.out)) (fun hn_=>(Kd.freshB (g:=gbz3) (o:=.cells #[.int .i64 a2_0,.slice A2_1 l2_1.length c2_1] 71 (0,0)) (bX BKz3.out) k_ hn_))⟩)) (below_size (hX HB.out)));replace BKz1:=aB BKz1 hb;replace BKz2:=aB BKz2 hb;replace BKz3:=aB BKz3 hb;replace HB:=aS HB hb;clear hb hox1;have hczx8:=cZ2 BKz3.out;obtain⟨Aox1,cox1,eox1⟩:=Kd.V_slice HOx1.out;subst eox1) | (go_at_call 86;(with_reducible refine(slices_Equal_int_int.calls _ _ _ _ _ _ _ _ _ (cX (Kd.V_reads' HOx1.out).2.2) ((Kd.V_reads' HOx1.out).2.1) (cC HR2_1.out HB.out) HC2_1.out A26.out).mono ?_);rintro e w' ⟨rfl,⟨nd,rfl⟩⟩))
   go_ret
   exact⟨rE,(hX HB.out)⟩
end Go.Proofs.YtmljebgideecjaaGreat.P2
namespace Go.Proofs.YtmljebgideecjaaGreat.P2
open Go.RowKit Go.Proofs.YtmljebgideecjaaGreatW.PrintWords Go.Proofs.YtmljebgideecjaaGreatW.PrintLast Go.Proofs.YtmljebgideecjaaGreatZ
def own (h:List Int):Nat→Int→Int
 | 0,_=>0
 | k+1,v=>if rd h (k:Int)=v then (k:Int)+1 else own h k v
theorem place_facts {v:Int} (h1:1≤v) (h6:v≤6):XbJ.f v=some (3+v)∧XbK.f v=some (3+v)∧XbN.f v=some (13+v)∧XbO.f v=some (13+v)∧Xa5.f v=some (v % 3)∧Xa4.f v=some (v % 3)∧XM.f v=some true:=by
 have g1:v ≥ 1:=h1
 have e1:wrap64 (3+v)=3+v:=w64 (by omega) (by omega)
 have e2:wrap64 (13+v)=13+v:=w64 (by omega) (by omega)
 have e3:Int.tmod v 3=v % 3:=Int.tmod_eq_emod_of_nonneg (by omega)
 refine⟨?_,?_,?_,?_,?_,?_,?_⟩
 ·simp only[XbJ.f,XM.f,Xb.f,g1,h6,if_true,decide_true,Option.bind_some,e1]
 ·simp only[XbK.f,XR.f,Xd.f,Xbs.f,g1,h6,if_true,decide_true,Option.bind_some,e1]
 ·simp only[XbN.f,XM.f,Xb.f,XbH.f,g1,h6,if_true,decide_true,Option.bind_some,e2]
 ·simp only[XbO.f,XR.f,Xd.f,XbI.f,Xbs.f,g1,h6,if_true,decide_true,Option.bind_some,e2]
 ·simp only[Xa5.f,XR.f,Xd.f,g1,h6,if_true,decide_true,Option.bind_some,e3]
 ·simp only[Xa4.f,XM.f,Xb.f,g1,h6,if_true,decide_true,Option.bind_some,e3]
 ·simp only[XM.f,Xb.f,g1,h6,if_true,decide_true,Option.bind_some]
end Go.Proofs.YtmljebgideecjaaGreat.P2
