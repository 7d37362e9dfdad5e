/- A part of the proof of the law FnExactJudgeWords: texts of this seat, merged (words, printed functions of the program, plain lemmas). Conditions: none of its own. -/
import Derived.Test.YtmljebgideecjaaGreatP2kFnExactJudgeWords34
set_option linter.unusedSimpArgs false
set_option linter.unusedVariables false
set_option maxHeartbeats 8000000
set_option maxRecDepth 100000
namespace Go.Proofs.YtmljebgideecjaaGreat.P2
open Go.Proofs.YtmljebgideecjaaGreatZ Go.RowKit Go.Proofs.YtmljebgideecjaaGreatW.PrintWords Go.Proofs.YtmljebgideecjaaGreatW.PrintLast Go.Proofs.YtmljebgideecjaaGreatW.PrintMore
attribute [local go_sem] max2_int min2_int max_two min_two max_three min_three max_four min_four   -- for this text's walks alone
mutual
def XC.j0:Nat→Bool→List Int→Int→Int→Int→Int→List Int→Int→Option (List Int × Int)
 | 0,_,_,_,_,_,_,_,_=>none
 | k+1,x19,x102000,x102001,x103000,x103001,x103002,x110000,x110001=>if x19=true then (some (x110000,x110001)) else (if x103000=1 then (XC.j1 k x103000 (x103000 == 1) x102000 x102001 x103000 x103001 x103002 x110000 x110001) else (XC.j1 k x103000 (x103000 == 2) x102000 x102001 x103000 x103001 x103002 x110000 x110001))
def XC.j1:Nat→Int→Bool→List Int→Int→Int→Int→Int→List Int→Int→Option (List Int × Int)
 | 0,_,_,_,_,_,_,_,_,_=>none
 | k+1,x22,x23,x102000,x102001,x103000,x103001,x103002,x110000,x110001=>if x23=true then (if 0≤x103001 then (if x103001<(x110000.length:Int) then (some ((x110000.set (x103001:Int).toNat x103002),x110001)) else (none)) else (none)) else (if x22=3 then (if 0≤x103001 then (if x103001<(x110000.length:Int) then (some ((x110000.set (x103001:Int).toNat 0),x110001)) else (none)) else (none)) else (if x22=8 then (some (x110000,wrap64 (x102001+1))) else (if x22=9 then (some (x110000,wrap64 (x102001+1))) else (some (x110000,x110001)))))
end
def XC.f (k:Nat) (l0_0:List Int) (a0_1:Int) (a1_0:Int) (a1_1:Int) (a1_2:Int) (a2_0:Int) (l2_1:List Int):Option (List Int × Int):=(Xag.f l0_0 a0_1).bind fun bt105=>((X0.f k l0_0 a0_1 a1_0 a1_1 a1_2 a2_0 l2_1).bind fun t110=>(if t110=true then (XC.j0 k (a2_0 != 0) l0_0 a0_1 a1_0 a1_1 a1_2 bt105.1 bt105.2) else (XC.j0 k true l0_0 a0_1 a1_0 a1_1 a1_2 bt105.1 bt105.2)))
theorem XC.calls (k:Nat) (A0_0:Option Addr) (c0_0:Nat) (l0_0:List Int) (a0_1:Int) (a1_0:Int) (a1_1:Int) (a1_2:Int) (a2_0:Int) (A2_1:Option Addr) (c2_1:Nat) (l2_1:List Int) (r1:List Int) (r2:Int) (w:World) (h0_0:Rw (Kd.int .i64) w A0_0 c0_0 l0_0) (h2_1:Rw (Kd.int .i64) w A2_1 c2_1 l2_1) (h:XC.f k l0_0 a0_1 a1_0 a1_1 a1_2 a2_0 l2_1=some (r1,r2)) :
  Calls Tryz.prog 81 #[.agg #[.slice A0_0 l0_0.length c0_0,.int .i64 a0_1],.agg #[.int .i64 a1_0,.int .i64 a1_1,.int .i64 a1_2],.agg #[.int .i64 a2_0,.slice A2_1 l2_1.length c2_1]] w fun e w'=>∃ v0_:Value,e = .returned (.agg #[v0_,.int .i64 r2])∧Kd.R (Kd.int .i64) 3 w' w.heap.size (fun _=>True) v0_ r1∧Below w.heap.size w w':=by
 have hu41:=Tryz.underlying41
 have hu69:=Tryz.underlying69
 have hu71:=Tryz.underlying71
 obtain⟨HR0_0,HC0_0⟩:=h0_0
 obtain⟨HR2_1,HC2_1⟩:=h2_1
 have HB:=aM (Below.refl w.heap.size w)
 have H:=h
 unfold XC.f at H
 clear h
 replace H:=bE H;obtain⟨⟨t105,t108⟩,A4,H⟩:=H
 try dsimp only at H
 have HC5:=aM H
 clear H
 go_enter Tryz.func81,Tryz.ntmps81
 go_upto_region 2 with(first | ((with_reducible refine gate_dst (N:=3) rfl ?_);refine boxE 3 #[.slice A0_0 l0_0.length c0_0,.int .i64 a0_1] 41 ?_;intro gbz1 hg wz1 hbox hb;have BKz1:=aM (hbox);have GWz1:=aG hg HB;replace HB:=aS HB hb;clear hb hbox hg) | ((with_reducible refine gate_dst (N:=4) rfl ?_);refine boxE 4 #[.int .i64 a1_0,.int .i64 a1_1,.int .i64 a1_2] 69 ?_;intro gbz2 hg wz2 hbox hb;have BKz2:=aM (hbox);have GWz2:=aG hg HB;have NBz1:=aL hg BKz1;have NBz2:=aR hg BKz1;replace BKz1:=aB BKz1 hb;replace HB:=aS HB hb;clear hb hbox hg) | ((with_reducible refine gate_dst (N:=5) rfl ?_);refine boxE 5 #[.int .i64 a2_0,.slice A2_1 l2_1.length c2_1] 71 ?_;intro gbz3 hg wz3 hbox hb;have BKz3:=aM (hbox);have GWz3:=aG hg HB;have NBz3:=aL hg BKz1;have NBz4:=aR hg BKz1;have NBz5:=aL hg BKz2;have NBz6:=aR hg BKz2;replace BKz1:=aB BKz1 hb;replace BKz2:=aB BKz2 hb;replace HB:=aS HB hb;clear hb hbox hg) | ((with_reducible refine gate_dst (N:=6) rfl ?_);refine boxE 6 #[.slice none 0 0,.int .i64 0] 41 ?_;intro gbz4 hg wz4 hbox hb;have BKz4:=aM (hbox);have GWz4:=aG hg HB;have NBz7:=aL hg BKz1;have NBz8:=aR hg BKz1;have NBz9:=aL hg BKz2;have NBz10:=aR hg BKz2;have NBz11:=aL hg BKz3;have NBz12:=aR hg BKz3;replace BKz1:=aB BKz1 hb;replace BKz2:=aB BKz2 hb;replace BKz3:=aB BKz3 hb;replace HB:=aS HB hb;clear hb hbox hg;have hnbz1:=nB NBz1 NBz2;have hnbz2:=nB NBz3 NBz4;have hnbz3:=nB NBz7 NBz8;have hczz1:=cZ2 BKz1.out) | ((with_reducible refine gate_callee (f:=64) rfl ?_);refine goesM 64 9 Tryz.func64 #[.agg #[.slice A0_0 l0_0.length c0_0,.int .i64 a0_1]] ?_;refine(Xag.calls _ _ _ _ _ _ _ (rW HR0_0 HB HC0_0) A4.out).mono ?_;rintro e wz5 ⟨vz1,rfl,hoz1,hb⟩;refine⟨_,rfl,?_⟩;have HOz1:=aM (Kd.R_lower hoz1 (below_size (hX HB.out)));replace BKz1:=aB BKz1 hb;replace BKz2:=aB BKz2 hb;replace BKz3:=aB BKz3 hb;replace BKz4:=aB BKz4 hb;replace HB:=aS HB hb;clear hb hoz1) | ((with_reducible refine gate_dst (N:=7) rfl ?_);refine boxE 7 #[.slice none 0 0,.int .i64 0] 41 ?_;intro gbz5 hg wz6 hbox hb;have BKz5:=aM (hbox);have GWz5:=aG hg HB;have NBz13:=aL hg BKz1;have NBz14:=aR hg BKz1;have NBz15:=aL hg BKz2;have NBz16:=aR hg BKz2;have NBz17:=aL hg BKz3;have NBz18:=aR hg BKz3;have NBz19:=aL hg BKz4;have NBz20:=aR hg BKz4;replace HOz1:=aQ HOz1 hb;replace BKz1:=aB BKz1 hb;replace BKz2:=aB BKz2 hb;replace BKz3:=aB BKz3 hb;replace BKz4:=aB BKz4 hb;replace HB:=aS HB hb;clear hb hbox hg;obtain⟨Aoz1,coz1,eoz1⟩:=Kd.R_slice HOz1.out;subst eoz1;have hnbz4:=nB NBz14 NBz13;have hnbz5:=nB NBz16 NBz15;have hnbz6:=nB NBz18 NBz17;have hnbz7:=nB NBz20 NBz19;have hczz3:=cZ2 BKz5.out))
 (try simp only[Act.put,List.setIfInBounds_toArray,List.set_cons_zero,List.set_cons_succ])
 go_cut [19] (fun vz2 wc=>∃ (kq:Nat) (x19_4:Bool),vz2 = .bool x19_4∧Aside0 (XC.j0 kq x19_4 l0_0 a0_1 a1_0 a1_1 a1_2 t105 t108=some (r1,r2))∧Aside0 (kq≤k)∧Aside0 (Kd.R (Kd.int .i64) 3 wc w.heap.size (fun _=>True) (.slice Aoz1 t105.length coz1) t105)∧Aside0 (wc.heap[gbz1]? = some (.cells #[(.slice A0_0 l0_0.length c0_0),.int .i64 a0_1] 41 (0,0)))∧Aside0 (wc.heap[gbz2]? = some (.cells #[.int .i64 a1_0,.int .i64 a1_1,.int .i64 a1_2] 69 (0,0)))∧Aside0 (wc.heap[gbz3]? = some (.cells #[.int .i64 a2_0,(.slice A2_1 l2_1.length c2_1)] 71 (0,0)))∧Aside0 (wc.heap[gbz4]? = some (.cells #[(.slice none 0 0),.int .i64 0] 41 (0,0)))∧Aside0 (wc.heap[gbz5]? = some (.cells #[(.slice Aoz1 t105.length coz1),.int .i64 t108] 41 (0,0)))∧Aside0 (Below w.heap.size w wc))
 case first =>
  have H:=HC5.out
  clear HC5
  replace H:=bE H;obtain⟨t110,A22,H⟩:=H
  cases t110
  case false =>
   rw[if_neg nft] at H
   have H':=aM H
   clear H
   have hnby1:=NBz1.out
   have hncy1:=NBz2.out
   have hnby2:=NBz3.out
   have hncy2:=NBz4.out
   have hnby3:=NBz7.out
   have hncy3:=NBz8.out
   have hnby4:=NBz13.out
   have hncy4:=NBz14.out
   have hczy1:=cZ2 BKz1.out
   have hnby5:=NBz5.out
   have hncy5:=NBz6.out
   have hnby6:=NBz9.out
   have hncy6:=NBz10.out
   have hnby7:=NBz15.out
   have hncy7:=NBz16.out
   have hczy3:=cZ3 BKz2.out
   have hnby8:=NBz11.out
   have hncy8:=NBz12.out
   have hnby9:=NBz17.out
   have hncy9:=NBz18.out
   have hczy6:=cZ2 BKz3.out
   go_wp2_with (refine gB 80 13 Tryz.func80 (X0.calls k _ _ l0_0 a0_1 a1_0 a1_1 a1_2 a2_0 _ _ l2_1 false _ (rW HR0_0 HB HC0_0) (rW HR2_1 HB HC2_1) A22.out) ?_;intro wy1 hb;replace HOz1:=aM (Kd.R_below (rF HOz1.out BKz5.out) hb);replace BKz1:=aF BKz1 hb;replace BKz2:=aF BKz2 hb;replace BKz3:=aF BKz3 hb;replace BKz4:=aF BKz4 hb;replace BKz5:=aM (blk_below (g:=gbz5) (o:=.cells #[.slice Aoz1 t105.length coz1,.int .i64 t108] 41 (0,0)) (bP BKz5.out) hb);replace HB:=aS HB hb;clear hb)
   go_meet
   case rel=>exact⟨_,(true),rS,H',⟨by first | omega | exact Nat.le_refl _⟩,⟨(rX HOz1.out)⟩,⟨(bX BKz1.out)⟩,⟨(bX BKz2.out)⟩,⟨(bX BKz3.out)⟩,⟨(bX BKz4.out)⟩,⟨(bX BKz5.out)⟩,⟨(hX HB.out)⟩⟩
  rw[if_pos rfl] at H
  have H':=aM H
  clear H
  have hnby1:=NBz1.out
  have hncy1:=NBz2.out
  have hnby2:=NBz3.out
  have hncy2:=NBz4.out
  have hnby3:=NBz7.out
  have hncy3:=NBz8.out
  have hnby4:=NBz13.out
  have hncy4:=NBz14.out
  have hczy1:=cZ2 BKz1.out
  have hnby5:=NBz5.out
  have hncy5:=NBz6.out
  have hnby6:=NBz9.out
  have hncy6:=NBz10.out
  have hnby7:=NBz15.out
  have hncy7:=NBz16.out
  have hczy3:=cZ3 BKz2.out
  have hnby8:=NBz11.out
  have hncy8:=NBz12.out
  have hnby9:=NBz17.out
  have hncy9:=NBz18.out
  have hczy6:=cZ2 BKz3.out
  go_wp2_with (refine gB 80 13 Tryz.func80 (X0.calls k _ _ l0_0 a0_1 a1_0 a1_1 a1_2 a2_0 _ _ l2_1 true _ (rW HR0_0 HB HC0_0) (rW HR2_1 HB HC2_1) A22.out) ?_;intro wy1 hb;replace HOz1:=aM (Kd.R_below (rF HOz1.out BKz5.out) hb);replace BKz1:=aF BKz1 hb;replace BKz2:=aF BKz2 hb;replace BKz3:=aF BKz3 hb;replace BKz4:=aF BKz4 hb;replace BKz5:=aM (blk_below (g:=gbz5) (o:=.cells #[.slice Aoz1 t105.length coz1,.int .i64 t108] 41 (0,0)) (bP BKz5.out) hb);replace HB:=aS HB hb;clear hb;have hczy8:=cZ2 BKz3.out)
  go_meet
  case rel=>exact⟨_,((a2_0 != 0)),rS,H',⟨by first | omega | exact Nat.le_refl _⟩,⟨(rX HOz1.out)⟩,⟨(bX BKz1.out)⟩,⟨(bX BKz2.out)⟩,⟨(bX BKz3.out)⟩,⟨(bX BKz4.out)⟩,⟨(bX BKz5.out)⟩,⟨(hX HB.out)⟩⟩
 case rest =>
  clear HC5
  try clear hczz1
  try clear hczz3
  obtain⟨kq,x19_4,rfl,HA,HJy1,HO_y1,BKz1,BKz2,BKz3,BKz4,BKz5,HB⟩:=hcut
  cases kq with
  | zero=>exact absurd HA.out (by simp[XC.j0])
  | succ kj4 =>
   have H:=HA.out
   clear HA
   simp only[XC.j0] at H
   cases x19_4
   case true =>
    rw[if_pos rfl] at H
    simp only[Option.some.injEq,Prod.mk.injEq] at H
    obtain⟨rfl,rfl⟩:=H
    have hnbx1:=NBz14.out
    have hncx1:=NBz13.out
    have hnbx2:=NBz16.out
    have hncx2:=NBz15.out
    have hnbx3:=NBz18.out
    have hncx3:=NBz17.out
    have hnbx4:=NBz20.out
    have hncx4:=NBz19.out
    have hczx1:=cZ2 BKz5.out
    have hnbx5:=nB NBz8 NBz7
    have hnbx6:=nB NBz10 NBz9
    have hnbx7:=nB NBz12 NBz11
    have hczx3:=cZ2 BKz4.out
    go_wp2
    refine bodyPost_ret (results_cell_row rfl _ _ gbz4 41 #[.slice Aoz1 t105.length coz1,.int .i64 t108] (0,0) _ rfl (bP BKz4.out) Tryz.underlying41 rfl (by kernel_rfl)) rfl ?_
    exact⟨_,rE,(Kd.R_mono (rF HO_y1.out BKz4.out) (fun _ hk=>trivial)),(hX HB.out)⟩
   rw[if_neg nft] at H
   have HC61:=aM H
   clear H
   have hnbx1:=NBz2.out
   have hncx1:=NBz1.out
   have hnbx2:=NBz5.out
   have hncx2:=NBz6.out
   have hnbx3:=NBz9.out
   have hncx3:=NBz10.out
   have hnbx4:=NBz15.out
   have hncx4:=NBz16.out
   have hczx1:=cZ3 BKz2.out
   go_upto_if 23 with(fail)
   go_cut [23] (fun vx1 wc=>∃ (kq:Nat) (x23_60:Bool),vx1 = .bool x23_60∧Aside0 (XC.j1 kq a1_0 x23_60 l0_0 a0_1 a1_0 a1_1 a1_2 t105 t108=some (r1,r2))∧Aside0 (kq≤kj4)∧Aside0 (Kd.R (Kd.int .i64) 3 wc w.heap.size (fun _=>True) (.slice Aoz1 t105.length coz1) t105)∧Aside0 (wc.heap[gbz1]? = some (.cells #[(.slice A0_0 l0_0.length c0_0),.int .i64 a0_1] 41 (0,0)))∧Aside0 (wc.heap[gbz2]? = some (.cells #[.int .i64 a1_0,.int .i64 a1_1,.int .i64 a1_2] 69 (0,0)))∧Aside0 (wc.heap[gbz3]? = some (.cells #[.int .i64 a2_0,(.slice A2_1 l2_1.length c2_1)] 71 (0,0)))∧Aside0 (wc.heap[gbz4]? = some (.cells #[(.slice none 0 0),.int .i64 0] 41 (0,0)))∧Aside0 (wc.heap[gbz5]? = some (.cells #[(.slice Aoz1 t105.length coz1),.int .i64 t108] 41 (0,0)))∧Aside0 (Below w.heap.size w wc))
   case first =>
    have H:=HC61.out
    clear HC61
    revert H;refine eN ?_ ?_<;>intro c67b0 c67b1 H
    ·(first | rw[c67b0] | (simp only[i64_w,i32_w];rw[c67b0]) | skip)
     have H':=aM H
     clear H
     go_wp2
     go_meet
     case rel=>exact⟨_,((a1_0 == 2)),rS,H',⟨by have:=HJy1.out;first | omega | exact Nat.le_refl _⟩,⟨(rX HO_y1.out)⟩,⟨(bX BKz1.out)⟩,⟨(bX BKz2.out)⟩,⟨(bX BKz3.out)⟩,⟨(bX BKz4.out)⟩,⟨(bX BKz5.out)⟩,⟨(hX HB.out)⟩⟩
    (first | rw[c67b0] | (simp only[i64_w,i32_w];rw[c67b0]) | skip)
    have H':=aM H
    clear H
    go_wp2
    go_meet
    case rel=>exact⟨_,((a1_0 == 1)),rS,H',⟨by have:=HJy1.out;first | omega | exact Nat.le_refl _⟩,⟨(rX HO_y1.out)⟩,⟨(bX BKz1.out)⟩,⟨(bX BKz2.out)⟩,⟨(bX BKz3.out)⟩,⟨(bX BKz4.out)⟩,⟨(bX BKz5.out)⟩,⟨(hX HB.out)⟩⟩
   case rest =>
    clear HC61
    try clear hczz1
    try clear hczz3
    try clear hczx1 hczx3
    obtain⟨kq,x23_60,rfl,HA,HJw1,HO_y1,BKz1,BKz2,BKz3,BKz4,BKz5,HB⟩:=hcut
    cases kq with
    | zero=>exact absurd HA.out (by simp[XC.j1])
    | succ kj60 =>
     have H:=HA.out
     clear HA
     simp only[XC.j1] at H
     cases x23_60
     case true =>
      rw[if_pos rfl] at H
      replace H:=ifQ H;obtain⟨c69b0,H⟩:=H
      replace H:=ifQ H;obtain⟨c70b0,H⟩:=H
      obtain⟨y111,hy111⟩:∃ y_:List Int,y_=(t105.set (a1_1:Int).toNat a1_2):=⟨_,rfl⟩
      replace H:(some (y111,t108))=some (r1,r2):=yH H hy111
      have Ny111:=aM hy111
      clear hy111
      simp only[Option.some.injEq,Prod.mk.injEq] at H
      obtain⟨rfl,rfl⟩:=H
      have hnbv1:=NBz14.out
      have hncv1:=NBz13.out
      have hnbv2:=NBz16.out
      have hncv2:=NBz15.out
      have hnbv3:=NBz18.out
      have hncv3:=NBz17.out
      have hnbv4:=NBz20.out
      have hncv4:=NBz19.out
      have hczv1:=cZ2 BKz5.out
      have hnbv5:=NBz2.out
      have hncv5:=NBz1.out
      have hnbv6:=NBz5.out
      have hncv6:=NBz6.out
      have hnbv7:=NBz9.out
      have hncv7:=NBz10.out
      have hczv3:=cZ3 BKz2.out
      have pv1:0≤(a1_1:Int):=odA
      have qv1:(a1_1:Int)<((t105.length:Int):Int):=odA
      obtain⟨gov1,cov1,eov1,gbv1,glv1,clv1,HGv1⟩:=Kd.R_form HO_y1.out (by omega)
      (first | cases eov1 | (injection eov1 with ea_ en_ ec_;(first | subst ea_ | (injection ea_ with ea_;subst ea_));subst ec_;clear en_))
      have GBv1:=aM gbv1
      have GGv1:=aM HGv1
      clear gbv1 glv1 HGv1
      obtain⟨hxv1,hfv1⟩:=Kd.R_celln 0 HO_y1.out (a1_1:Int) pv1 qv1
      replace pv1:=eq_true pv1
      replace qv1:=eq_true qv1
      have HPv1:=Kd.R_putg HO_y1.out (a1_1:Int) a1_2
      go_wp2_with ((with_reducible refine gate_store (t:=3) (p:=32) rfl ?_);refine store_event (t:=3) (p:=32) (v:=?vo_wv1) (w1:=(wc.setCell ⟨gov1,(a1_1:Int).toNat,none⟩ (.int .i64 a1_2))) ?hg ?ho ?hn ?hr ?_;(case ho=>rfl);(case hg=>rfl);(case hn=>rfl);(case hr=>first | (go_simp;done) | (go_simp;rfl));intro wv1 hw;have hg:wc.grownBy wv1 (some gov1):=(by rw[hw];exact HPv1.2);have hp_:Kd.R (Kd.int .i64) 3 wv1 w.heap.size (fun _=>True) (.slice (some ⟨gov1,0,none⟩) t105.length coz1) y111:=(by rw[hw,Ny111.out];exact HPv1.1);clear HPv1;replace BKz1:=aM (blk_grown (g:=gbz1) (o:=.cells #[.slice A0_0 l0_0.length c0_0,.int .i64 a0_1] 41 (0,0)) (bX BKz1.out) hg (Kd.R_ne HO_y1.out BKz1.out (by decide)));replace BKz2:=aM (blk_grown (g:=gbz2) (o:=.cells #[.int .i64 a1_0,.int .i64 a1_1,.int .i64 a1_2] 69 (0,0)) (bX BKz2.out) hg (Kd.R_ne HO_y1.out BKz2.out (by decide)));replace BKz3:=aM (blk_grown (g:=gbz3) (o:=.cells #[.int .i64 a2_0,.slice A2_1 l2_1.length c2_1] 71 (0,0)) (bX BKz3.out) hg (Kd.R_ne HO_y1.out BKz3.out (by decide)));replace BKz4:=aM (blk_grown (g:=gbz4) (o:=.cells #[.slice none 0 0,.int .i64 0] 41 (0,0)) (bX BKz4.out) hg (Kd.R_ne HO_y1.out BKz4.out (by decide)));replace BKz5:=aM (blk_grown (g:=gbz5) (o:=.cells #[.slice (some ⟨gov1,0,none⟩) t105.length coz1,.int .i64 t108] 41 (0,0)) (bX BKz5.out) hg (Kd.R_ne HO_y1.out BKz5.out (by decide)));replace HO_y1:=aM (hp_);replace HB:=aM ((by rw[hw];exact below_set (HB.out) GBv1.out:Below w.heap.size w wv1));clear hg hw hp_;have hczv6:=cZ2 BKz5.out;have hnbv8:=NBz8.out;have hncv8:=NBz7.out;have hnbv9:=NBz12.out;have hncv9:=NBz11.out;have hczv8:=cZ2 BKz4.out)
      refine bodyPost_ret (results_cell_row rfl _ _ gbz4 41 #[.slice (some ⟨gov1,0,none⟩) t105.length coz1,.int .i64 t108] (0,0) _ rfl (by (with_reducible repeat (first | refine blk_drewN ?_ _ | refine blk_drew ?_ | refine blk_alloc ?_ _));refine blk_put (cs:=#[.slice (some ⟨gov1,0,none⟩) t105.length coz1,.int .i64 0]) ?_ 1 _ rfl;(with_reducible repeat (first | refine blk_drewN ?_ _ | refine blk_drew ?_ | refine blk_alloc ?_ _));refine blk_put (cs:=#[.slice none 0 0,.int .i64 0]) ?_ 0 _ rfl;(with_reducible repeat (first | refine blk_drewN ?_ _ | refine blk_drew ?_ | refine blk_alloc ?_ _));exact BKz4.out) Tryz.underlying41 rfl (by kernel_rfl)) rfl ?_
      exact⟨_,rE,(Kd.R_mono (rF HO_y1.out BKz4.out) (fun _ hk=>trivial)),(hX HB.out)⟩
     rw[if_neg nft] at H
     revert H;refine eP ?_ ?_<;>intro c87b0 c87b1 H
     ·replace H:=ifP H;obtain⟨c88,H⟩:=H
      have c88b0:=decide_eq_true c88
      clear c88
      replace H:=ifQ H;obtain⟨c89b0,H⟩:=H
      obtain⟨y112,hy112⟩:∃ y_:List Int,y_=(t105.set (a1_1:Int).toNat 0):=⟨_,rfl⟩
      replace H:(some (y112,t108))=some (r1,r2):=yH H hy112
      have Ny112:=aM hy112
      clear hy112
      simp only[Option.some.injEq,Prod.mk.injEq] at H
      obtain⟨rfl,rfl⟩:=H
      have hnbv1:=NBz14.out
      have hncv1:=NBz13.out
      have hnbv2:=NBz16.out
      have hncv2:=NBz15.out
      have hnbv3:=NBz18.out
      have hncv3:=NBz17.out
      have hnbv4:=NBz20.out
      have hncv4:=NBz19.out
      have hczv1:=cZ2 BKz5.out
      have hnbv5:=NBz2.out
      have hncv5:=NBz1.out
      have hnbv6:=NBz5.out
      have hncv6:=NBz6.out
      have hnbv7:=NBz9.out
      have hncv7:=NBz10.out
      have hczv3:=cZ3 BKz2.out
      have pv1:0≤(a1_1:Int):=odA
      have qv1:(a1_1:Int)<((t105.length:Int):Int):=odA
      obtain⟨gov1,cov1,eov1,gbv1,glv1,clv1,HGv1⟩:=Kd.R_form HO_y1.out (by omega)
      (first | cases eov1 | (injection eov1 with ea_ en_ ec_;(first | subst ea_ | (injection ea_ with ea_;subst ea_));subst ec_;clear en_))
      have GBv1:=aM gbv1
      have GGv1:=aM HGv1
      clear gbv1 glv1 HGv1
      obtain⟨hxv1,hfv1⟩:=Kd.R_celln 0 HO_y1.out (a1_1:Int) pv1 qv1
      replace pv1:=eq_true pv1
      replace qv1:=eq_true qv1
      have HPv1:=Kd.R_putg HO_y1.out (a1_1:Int) 0
      go_wp2_with ((with_reducible refine gate_store (t:=3) (p:=39) rfl ?_);refine store_event (t:=3) (p:=39) (v:=?vo_wv1_509) (w1:=(wc.setCell ⟨gov1,(a1_1:Int).toNat,none⟩ (.int .i64 0))) ?hg ?ho ?hn ?hr ?_;(case ho=>rfl);(case hg=>rfl);(case hn=>rfl);(case hr=>first | (go_simp;done) | (go_simp;rfl));intro wv1 hw;have hg:wc.grownBy wv1 (some gov1):=(by rw[hw];exact HPv1.2);have hp_:Kd.R (Kd.int .i64) 3 wv1 w.heap.size (fun _=>True) (.slice (some ⟨gov1,0,none⟩) t105.length coz1) y112:=(by rw[hw,Ny112.out];exact HPv1.1);clear HPv1;replace BKz1:=aM (blk_grown (g:=gbz1) (o:=.cells #[.slice A0_0 l0_0.length c0_0,.int .i64 a0_1] 41 (0,0)) (bX BKz1.out) hg (Kd.R_ne HO_y1.out BKz1.out (by decide)));replace BKz2:=aM (blk_grown (g:=gbz2) (o:=.cells #[.int .i64 a1_0,.int .i64 a1_1,.int .i64 a1_2] 69 (0,0)) (bX BKz2.out) hg (Kd.R_ne HO_y1.out BKz2.out (by decide)));replace BKz3:=aM (blk_grown (g:=gbz3) (o:=.cells #[.int .i64 a2_0,.slice A2_1 l2_1.length c2_1] 71 (0,0)) (bX BKz3.out) hg (Kd.R_ne HO_y1.out BKz3.out (by decide)));replace BKz4:=aM (blk_grown (g:=gbz4) (o:=.cells #[.slice none 0 0,.int .i64 0] 41 (0,0)) (bX BKz4.out) hg (Kd.R_ne HO_y1.out BKz4.out (by decide)));replace BKz5:=aM (blk_grown (g:=gbz5) (o:=.cells #[.slice (some ⟨gov1,0,none⟩) t105.length coz1,.int .i64 t108] 41 (0,0)) (bX BKz5.out) hg (Kd.R_ne HO_y1.out BKz5.out (by decide)));replace HO_y1:=aM (hp_);replace HB:=aM ((by rw[hw];exact below_set (HB.out) GBv1.out:Below w.heap.size w wv1));clear hg hw hp_;have hczv6:=cZ2 BKz5.out;have hnbv8:=NBz8.out;have hncv8:=NBz7.out;have hnbv9:=NBz12.out;have hncv9:=NBz11.out;have hczv8:=cZ2 BKz4.out)
      refine bodyPost_ret (results_cell_row rfl _ _ gbz4 41 #[.slice (some ⟨gov1,0,none⟩) t105.length coz1,.int .i64 t108] (0,0) _ rfl (by (with_reducible repeat (first | refine blk_drewN ?_ _ | refine blk_drew ?_ | refine blk_alloc ?_ _));refine blk_put (cs:=#[.slice (some ⟨gov1,0,none⟩) t105.length coz1,.int .i64 0]) ?_ 1 _ rfl;(with_reducible repeat (first | refine blk_drewN ?_ _ | refine blk_drew ?_ | refine blk_alloc ?_ _));refine blk_put (cs:=#[.slice none 0 0,.int .i64 0]) ?_ 0 _ rfl;(with_reducible repeat (first | refine blk_drewN ?_ _ | refine blk_drew ?_ | refine blk_alloc ?_ _));exact BKz4.out) Tryz.underlying41 rfl (by kernel_rfl)) rfl ?_
      exact⟨_,rE,(Kd.R_mono (rF HO_y1.out BKz4.out) (fun _ hk=>trivial)),(hX HB.out)⟩
     revert H;refine eP ?_ ?_<;>intro c106b0 c106b1 H
     ·simp only[Option.some.injEq,Prod.mk.injEq] at H
      obtain⟨rfl,rfl⟩:=H
      have hnbv1:=NBz1.out
      have hncv1:=NBz2.out
      have hnbv2:=NBz3.out
      have hncv2:=NBz4.out
      have hnbv3:=NBz7.out
      have hncv3:=NBz8.out
      have hnbv4:=NBz13.out
      have hncv4:=NBz14.out
      have hczv1:=cZ2 BKz1.out
      have hnbv5:=NBz16.out
      have hncv5:=NBz15.out
      have hnbv6:=NBz18.out
      have hncv6:=NBz17.out
      have hnbv7:=NBz20.out
      have hncv7:=NBz19.out
      have hczv3:=cZ2 BKz5.out
      have hnbv8:=NBz10.out
      have hncv8:=NBz9.out
      have hnbv9:=NBz12.out
      have hncv9:=NBz11.out
      have hczv5:=cZ2 BKz4.out
      go_wp2
      refine bodyPost_ret (results_cell_row rfl _ _ gbz4 41 #[.slice Aoz1 t105.length coz1,.int .i64 (wrap64 (a0_1+1))] (0,0) _ rfl (bP BKz4.out) Tryz.underlying41 rfl (by kernel_rfl)) rfl ?_
      exact⟨_,rE,(Kd.R_mono (rF2 HO_y1.out BKz5.out BKz4.out) (fun _ hk=>trivial)),(hX HB.out)⟩
     revert H;refine eN ?_ ?_<;>intro c119b0 c119b1 H
     ·simp only[Option.some.injEq,Prod.mk.injEq] at H
      obtain⟨rfl,rfl⟩:=H
      have hnbv1:=NBz14.out
      have hncv1:=NBz13.out
      have hnbv2:=NBz16.out
      have hncv2:=NBz15.out
      have hnbv3:=NBz18.out
      have hncv3:=NBz17.out
      have hnbv4:=NBz20.out
      have hncv4:=NBz19.out
      have hczv1:=cZ2 BKz5.out
      have hnbv5:=NBz8.out
      have hncv5:=NBz7.out
      have hnbv6:=NBz10.out
      have hncv6:=NBz9.out
      have hnbv7:=NBz12.out
      have hncv7:=NBz11.out
      have hczv3:=cZ2 BKz4.out
      go_wp2
      refine bodyPost_ret (results_cell_row rfl _ _ gbz4 41 #[.slice Aoz1 t105.length coz1,.int .i64 t108] (0,0) _ rfl (bP BKz4.out) Tryz.underlying41 rfl (by kernel_rfl)) rfl ?_
      exact⟨_,rE,(Kd.R_mono (rF HO_y1.out BKz4.out) (fun _ hk=>trivial)),(hX HB.out)⟩
     simp only[Option.some.injEq,Prod.mk.injEq] at H
     obtain⟨rfl,rfl⟩:=H
     have hnbv1:=NBz1.out
     have hncv1:=NBz2.out
     have hnbv2:=NBz3.out
     have hncv2:=NBz4.out
     have hnbv3:=NBz7.out
     have hncv3:=NBz8.out
     have hnbv4:=NBz13.out
     have hncv4:=NBz14.out
     have hczv1:=cZ2 BKz1.out
     have hnbv5:=NBz16.out
     have hncv5:=NBz15.out
     have hnbv6:=NBz18.out
     have hncv6:=NBz17.out
     have hnbv7:=NBz20.out
     have hncv7:=NBz19.out
     have hczv3:=cZ2 BKz5.out
     have hnbv8:=NBz10.out
     have hncv8:=NBz9.out
     have hnbv9:=NBz12.out
     have hncv9:=NBz11.out
     have hczv5:=cZ2 BKz4.out
     go_wp2
     refine bodyPost_ret (results_cell_row rfl _ _ gbz4 41 #[.slice Aoz1 t105.length coz1,.int .i64 (wrap64 (a0_1+1))] (0,0) _ rfl (bP BKz4.out) Tryz.underlying41 rfl (by kernel_rfl)) rfl ?_
     exact⟨_,rE,(Kd.R_mono (rF2 HO_y1.out BKz5.out BKz4.out) (fun _ hk=>trivial)),(hX HB.out)⟩
mutual
def XD.j0:Nat→Bool→List (S140)→List (S162)→Option (Bool)
 | 0,_,_,_=>none
 | k+1,x23,x102000,x102001=>if x23=true then (some false) else (XD.l0 k x102000 (x102000.length:Int) 0 x102000 x102001)
def XD.l0:Nat→List (S140)→Int→Int→List (S140)→List (S162)→Option (Bool)
 | 0,_,_,_,_,_=>none
 | k+1,x25,x26,x27,x102000,x102001=>if x27<x26 then (if 0≤x27 then (if x27<(x25.length:Int) then ((XaO.f ((rd_T140 x25 x27).f0) ((rd_T140 x25 x27).f1) ((rd_T140 x25 x27).f2) (x102001.length:Int)).bind fun t106=>(if t106=true then (if ((rd_T140 x25 x27).f1)=0 then (XD.l0 k x25 x26 (wrap64 (x27+1)) x102000 x102001) else (if 0≤(wrap64 (((rd_T140 x25 x27).f1) - 1)) then (if (wrap64 (((rd_T140 x25 x27).f1) - 1))<(x102001.length:Int) then ((XU.f k ((rd_T162 x102001 (wrap64 (((rd_T140 x25 x27).f1) - 1))).f0) ((rd_T162 x102001 (wrap64 (((rd_T140 x25 x27).f1) - 1))).f1) ((rd_T162 x102001 (wrap64 (((rd_T140 x25 x27).f1) - 1))).f2) ((rd_T162 x102001 (wrap64 (((rd_T140 x25 x27).f1) - 1))).f3.f0) ((rd_T162 x102001 (wrap64 (((rd_T140 x25 x27).f1) - 1))).f3.f1) x27).bind fun bt109=>(if bt109.2.2.2=true then (if ((rd_T162 x102001 (wrap64 (((rd_T140 x25 x27).f1) - 1))).f0)=((rd_T140 x25 x27).f2) then (XD.l0 k x25 x26 (wrap64 (x27+1)) x102000 x102001) else (some false)) else (some false))) else (none)) else (none))) else (some false))) else (none)) else (none)) else (some true)
end
def XD.f (k:Nat) (l0_0:List (S140)) (l0_1:List (S162)):Option (Bool):=if (l0_0.length:Int)=20 then ((Xd.f (l0_1.length:Int) 1 4).bind fun t102=>(if t102=true then ((Xaw.f k l0_1).bind fun t103=>(XD.j0 k t103 l0_0 l0_1)) else (XD.j0 k true l0_0 l0_1))) else (XD.j0 k true l0_0 l0_1)
theorem XD.calls (k:Nat) (A0_0:Option Addr) (c0_0:Nat) (l0_0:List (S140)) (A0_1:Option Addr) (c0_1:Nat) (l0_1:List (S162)) (r:Bool) (w:World) (h0_0:Rw k140 w A0_0 c0_0 l0_0) (h0_1:Rw k162 w A0_1 c0_1 l0_1) (H:XD.f k l0_0 l0_1=some r) :
  Calls Tryz.prog 101 #[.agg #[.slice A0_0 l0_0.length c0_0,.slice A0_1 l0_1.length c0_1]] w fun e w'=>e = .returned (.bool r)∧Below w.heap.size w w':=by
 have hu38:=Tryz.underlying38
 have hu140:=Tryz.underlying140
 have hu162:=Tryz.underlying162
 have hu165:=Tryz.underlying165
 obtain⟨HR0_0,HC0_0⟩:=h0_0
 obtain⟨HR0_1,HC0_1⟩:=h0_1
 have HB:=aM (Below.refl w.heap.size w)
 unfold XD.f at H
 have HC2:=aM H
 clear H
 go_enter Tryz.func101,Tryz.ntmps101
 go_upto_region 1 with((with_reducible refine gate_dst (N:=1) rfl ?_);(try (refine gate_guard (by rfl) ?_;dsimp only));refine boxF 1 #[.slice A0_0 l0_0.length c0_0,.slice A0_1 l0_1.length c0_1] 38 ?_;intro gbz1 hg wz1 hbox hb;have BKz1:=aM (hbox);have GWz1:=aG hg HB;replace HB:=aS HB hb;clear hb hbox hg)
 (try simp only[Act.put,List.setIfInBounds_toArray,List.set_cons_zero,List.set_cons_succ])
 go_cut [23] (fun vz1 wc=>∃ (kq:Nat) (x23_1:Bool),vz1 = .bool x23_1∧Aside0 (XD.j0 kq x23_1 l0_0 l0_1=some r)∧Aside0 (kq≤k)∧Aside0 (wc.heap[gbz1]? = some (.cells #[(.slice A0_0 l0_0.length c0_0),(.slice A0_1 l0_1.length c0_1)] 38 (0,0)))∧Aside0 (Below w.heap.size w wc))
 case first =>
  have H:=HC2.out
  clear HC2
  revert H;refine eN ?_ ?_<;>intro c4b0 c4b1 H
  ·(first | rw[c4b0] | (simp only[i64_w,i32_w];rw[c4b0]) | skip)
   have H':=aM H
   clear H
   have hczy1:=cZ2 BKz1.out
   go_wp2
   go_meet
   case rel=>exact⟨_,(true),rS,H',⟨by first | omega | exact Nat.le_refl _⟩,⟨(bX BKz1.out)⟩,⟨(hX HB.out)⟩⟩
  (first | rw[c4b0] | (simp only[i64_w,i32_w];rw[c4b0]) | skip)
  replace H:=bE H;obtain⟨t102,A5,H⟩:=H
  cases t102
  case false =>
   rw[if_neg nft] at H
   have H':=aM H
   clear H
   have hczy1:=cZ2 BKz1.out
   go_wp2_with (go_at_call 102;(with_reducible refine(Xd.calls _ _ _ _ _ A5.out).mono ?_);rintro e w' ⟨rfl,⟨nd,rfl⟩⟩)
   go_meet
   case rel=>exact⟨_,(true),rS,H',⟨by first | omega | exact Nat.le_refl _⟩,⟨(bX BKz1.out)⟩,⟨(hX HB.out)⟩⟩
  rw[if_pos rfl] at H
  replace H:=bE H;obtain⟨t103,A7,H⟩:=H
  have H':=aM H
  clear H
  have hczy1:=cZ2 BKz1.out
  go_wp2_with (first | (go_at_call 102;(with_reducible refine(Xd.calls _ _ _ _ _ A5.out).mono ?_);rintro e w' ⟨rfl,⟨nd,rfl⟩⟩) | (go_at_call 169;(with_reducible refine(Xaw.calls _ _ _ _ _ _ (rW HR0_1 HB HC0_1) A7.out).mono ?_);rintro e wy1 ⟨rfl,hb⟩;replace BKz1:=aB BKz1 hb;replace HB:=aS HB hb;clear hb))
  go_meet
  case rel=>exact⟨_,(t103),rS,H',⟨by first | omega | exact Nat.le_refl _⟩,⟨(bX BKz1.out)⟩,⟨(hX HB.out)⟩⟩
 case rest =>
  clear HC2
  obtain⟨kq,x23_1,rfl,HA,HJy1,BKz1,HB⟩:=hcut
  cases kq with
  | zero=>exact absurd HA.out (by simp[XD.j0])
  | succ kj1 =>
   have H:=HA.out
   clear HA
   simp only[XD.j0] at H
   cases x23_1
   case true =>
    rw[if_pos rfl] at H
    exact fR
   rw[if_neg nft] at H
   have H':=aM H
   clear H
   have hczx1:=cZ2 BKz1.out
   go_wp2
   go_loopg [27] kj1 (fun kq v27 w'=>∃ (x27_2:Int),v27 = .int .i64 x27_2∧Aside0 (XD.l0 kq l0_0 (l0_0.length:Int) x27_2 l0_0 l0_1=some r)∧Aside0 (kq≤kj1)∧Aside0 (w'.heap[gbz1]? = some (.cells #[(.slice A0_0 l0_0.length c0_0),(.slice A0_1 l0_1.length c0_1)] 38 (0,0)))∧Aside0 (Below w.heap.size w w'))
   case atStart=>exact⟨(0),rS,H',⟨Nat.le_refl _⟩,⟨(bX BKz1.out)⟩,⟨(hX HB.out)⟩⟩
   case round =>
    clear H'
    try clear hczx1
    obtain⟨x27_2,rfl,HA,HKw1,BKz1,HB⟩:=hrel
    cases gk with
    | zero=>exact absurd HA.out (by simp[XD.l0])
    | succ k2 =>
     have H:=HA.out
     clear HA
     simp only[XD.l0] at H
     revert H;refine iN ?_ ?_<;>intro c14b0 H
     ·obtain rfl:=sI H
      exact fS
     replace H:=ifQ H;obtain⟨c15b0,H⟩:=H
     replace H:=ifQ H;obtain⟨c16b0,H⟩:=H
     replace H:=bE H;obtain⟨t106,A17,H⟩:=H
     obtain⟨adv1,ev1,pv1,qv1,hxv1⟩:=at_T140c HR0_0 HB x27_2
     cases ev1
     go_wp2_with ((with_reducible refine gate_dst (N:=4) rfl ?_);(try (refine gate_guard (by rfl) ?_;dsimp only));refine boxF 4 #[.int .i64 0,.int .i64 0,.int .i64 0] 140 ?_;intro gbv1 hg wv1 hbox hb;have BKv1:=aM (hbox);have GWv1:=aG hg HB;have NBv1:=aL hg BKz1;have NBv2:=aR hg BKz1;replace BKz1:=aB BKz1 hb;replace HB:=aS HB hb;clear hb hbox hg;have hnbv1:=nB NBv2 NBv1;have hczv1:=cZ3 BKv1.out;have hczv4:=cZ2 BKz1.out;refine Stop.out ?_)
     refine⟨?_⟩
     cases t106
     case false =>
      rw[if_neg nft] at H
      obtain rfl:=sI H
      go_wp2_with (refine gB 172 36 Tryz.func172 (XaO.calls _ _ _ _ _ _ A17.out) ?_;intro wv2 hb;replace BKz1:=aF BKz1 hb;replace BKv1:=aM (blk_below (g:=gbv1) (o:=.cells #[.int .i64 ((rd_T140 l0_0 x27_2).f0),.int .i64 ((rd_T140 l0_0 x27_2).f1),.int .i64 ((rd_T140 l0_0 x27_2).f2)] 140 (0,0)) (bP BKv1.out) hb);replace HB:=aS HB hb;clear hb)
      go_ret
      exact⟨rE,(hX HB.out)⟩
     rw[if_pos rfl] at H
     revert H;refine eP ?_ ?_<;>intro c19b0 c19b1 H
     ·have H':=aM H
      clear H
      go_wp2_with (refine gB 172 36 Tryz.func172 (XaO.calls _ _ _ _ _ _ A17.out) ?_;intro wv2 hb;replace BKz1:=aF BKz1 hb;replace BKv1:=aM (blk_below (g:=gbv1) (o:=.cells #[.int .i64 ((rd_T140 l0_0 x27_2).f0),.int .i64 ((rd_T140 l0_0 x27_2).f1),.int .i64 ((rd_T140 l0_0 x27_2).f2)] 140 (0,0)) (bP BKv1.out) hb);replace HB:=aS HB hb;clear hb;have hczv6:=cZ3 BKv1.out)
      go_roundg k2
      case measure=>have:=HJy1.out;have:=HKw1.out;omega
      case rel=>exact⟨(wrap64 (x27_2+1)),rS,H',⟨by have:=HJy1.out;have:=HKw1.out;omega⟩,⟨(bX BKz1.out)⟩,⟨(hX HB.out)⟩⟩
     obtain⟨ji26,hji26⟩:∃ j_:Int,(wrap64 (((rd_T140 l0_0 x27_2).f1) - 1))=j_:=⟨_,rfl⟩
     replace H:(if 0≤(ji26) then (if (ji26)<(l0_1.length:Int) then ((XU.f k2 ((rd_T162 l0_1 (ji26)).f0) ((rd_T162 l0_1 (ji26)).f1) ((rd_T162 l0_1 (ji26)).f2) ((rd_T162 l0_1 (ji26)).f3.f0) ((rd_T162 l0_1 (ji26)).f3.f1) x27_2).bind fun bt109=>(if bt109.2.2.2=true then (if ((rd_T162 l0_1 (ji26)).f0)=((rd_T140 l0_0 x27_2).f2) then (XD.l0 k2 l0_0 (l0_0.length:Int) (wrap64 (x27_2+1)) l0_0 l0_1) else (some false)) else (some false))) else (none)) else (none))=some r:=by first | (rw[hji26] at H;exact H) | (simp only[hji26] at H ⊢;exact H)
     (try rw[hji26] at A17)
     have hji26w:(IntKind.i64.wrap (((rd_T140 l0_0 x27_2).f1) - 1))=ji26:=(i64_w _).trans hji26
     replace H:=ifQ H;obtain⟨c27b0,H⟩:=H
     replace H:=ifQ H;obtain⟨c28b0,H⟩:=H
     replace H:=bE H;obtain⟨⟨t109,t110,t111,t112⟩,A29,H⟩:=H
     try dsimp only at H
     go_wp2_with (first | (refine gB 172 36 Tryz.func172 (XaO.calls _ _ _ _ _ _ A17.out) ?_;intro wv2 hb;replace BKz1:=aF BKz1 hb;replace BKv1:=aM (blk_below (g:=gbv1) (o:=.cells #[.int .i64 ((rd_T140 l0_0 x27_2).f0),.int .i64 ((rd_T140 l0_0 x27_2).f1),.int .i64 ((rd_T140 l0_0 x27_2).f2)] 140 (0,0)) (bP BKv1.out) hb);replace HB:=aS HB hb;clear hb;have hczv6:=cZ3 BKv1.out;have hczv9:=cZ2 BKz1.out;have pv2:0≤((ji26):Int):=odA;have qv2:(ji26)<(l0_1.length:Int):=odA;obtain⟨adv2,Av1,cv1,Av2,cv2,ev2,hxv4,hxv5,hxv6,hxv7,hxv8,hlv1,hiv1,hlv2,hiv2⟩:=at_T162 HR0_1.out (ji26) pv2 qv2;cases ev2;replace hxv4:=bc HB.out hxv4;replace hxv5:=bc HB.out hxv5;replace hxv6:=bc HB.out hxv6;replace hxv7:=bc HB.out hxv7;replace hxv8:=bc HB.out hxv8;have HRv1:=aM hiv1;have HCv1:=aM hlv1;clear hiv1 hlv1;have HRv2:=aM hiv2;have HCv2:=aM hlv2;clear hiv2 hlv2;replace pv2:=eq_true pv2;replace qv2:=eq_true qv2) | ((with_reducible refine gate_dst (N:=5) rfl ?_);(try (refine gate_guard (by rfl) ?_;dsimp only));refine boxF 5 #[.int .i64 0,.int .i64 0,.slice none 0 0,.int .i64 0,.slice none 0 0] 162 ?_;intro gbv2 hg wv3 hbox hb;have BKv2:=aM (hbox);have GWv2:=aG hg HB;have NBv3:=aL hg BKz1;have NBv4:=aR hg BKz1;have NBv5:=aL hg BKv1;have NBv6:=aR hg BKv1;replace BKz1:=aB BKz1 hb;replace BKv1:=aB BKv1 hb;replace HB:=aS HB hb;clear hb hbox hg;have hnbv2:=nB NBv4 NBv3;have hnbv3:=nB NBv6 NBv5;have hczv11:=cZ5 BKv2.out;refine Stop.out ?_))
     refine⟨?_⟩
     cases t112
     case false =>
      rw[if_neg nft] at H
      obtain rfl:=sI H
      go_wp2_with (first | ((with_reducible refine gate_callee (f:=173) rfl ?_);refine goesL_ (some 51) rfl rfl Tryz.func173 (by kernel_rfl) rfl #[.agg #[.int .i64 ((rd_T162 l0_1 (ji26)).f0),.int .i64 ((rd_T162 l0_1 (ji26)).f1),.slice Av1 ((rd_T162 l0_1 (ji26)).f2).length cv1,.int .i64 ((rd_T162 l0_1 (ji26)).f3.f0),.slice Av2 ((rd_T162 l0_1 (ji26)).f3.f1).length cv2],.int .i64 x27_2] rfl (by (try simp only[List.map_toArray,List.map_cons,List.map_nil]);first | done | (simp only[hji26];rfl) | rfl | (simp only[List.length_drop,List.length_take];rfl)) ?_;(with_reducible refine(XU.calls k2 ((rd_T162 l0_1 (ji26)).f0) ((rd_T162 l0_1 (ji26)).f1) _ _ ((rd_T162 l0_1 (ji26)).f2) ((rd_T162 l0_1 (ji26)).f3.f0) _ _ ((rd_T162 l0_1 (ji26)).f3.f1) x27_2 t109 t110 t111 false _ (rW HRv1 HB HCv1) (rW HRv2 HB HCv2) A29.out).mono ?_);rintro e wv4 ⟨rfl,hb⟩;refine⟨_,rfl,?_⟩;replace BKz1:=aF BKz1 hb;replace BKv1:=aF BKv1 hb;replace BKv2:=aM (blk_below (g:=gbv2) (o:=.cells #[.int .i64 ((rd_T162 l0_1 (ji26)).f0),.int .i64 ((rd_T162 l0_1 (ji26)).f1),.slice Av1 ((rd_T162 l0_1 (ji26)).f2).length cv1,.int .i64 ((rd_T162 l0_1 (ji26)).f3.f0),.slice Av2 ((rd_T162 l0_1 (ji26)).f3.f1).length cv2] 162 (0,0)) (bP BKv2.out) hb);replace HB:=aS HB hb;clear hb) | ((with_reducible refine gate_dst (N:=6) rfl ?_);(try (refine gate_guard (by rfl) ?_;dsimp only));refine boxF 6 #[.int .i64 0,.int .i64 0,.int .i64 0] 165 ?_;intro gbv3 hg wv5 hbox hb;have BKv3:=aM (hbox);have GWv3:=aG hg HB;have GEv3:=aG hg HB;have NBv7:=aL hg BKz1;have NBv8:=aR hg BKz1;have NBv9:=aL hg BKv1;have NBv10:=aR hg BKv1;have NBv11:=aM ((by rw[hg];exact Nat.ne_of_lt (blk_lt (g:=gbv2) (o:=.cells #[.int .i64 ((rd_T162 l0_1 (ji26)).f0),.int .i64 ((rd_T162 l0_1 (ji26)).f1),.slice Av1 ((rd_T162 l0_1 (ji26)).f2).length cv1,.int .i64 ((rd_T162 l0_1 (ji26)).f3.f0),.slice Av2 ((rd_T162 l0_1 (ji26)).f3.f1).length cv2] 162 (0,0)) (bX BKv2.out)):gbv2 ≠ gbv3));have NBv12:=aM ((by rw[hg];exact Nat.ne_of_gt (blk_lt (g:=gbv2) (o:=.cells #[.int .i64 ((rd_T162 l0_1 (ji26)).f0),.int .i64 ((rd_T162 l0_1 (ji26)).f1),.slice Av1 ((rd_T162 l0_1 (ji26)).f2).length cv1,.int .i64 ((rd_T162 l0_1 (ji26)).f3.f0),.slice Av2 ((rd_T162 l0_1 (ji26)).f3.f1).length cv2] 162 (0,0)) (bX BKv2.out)):gbv3 ≠ gbv2));replace BKz1:=aB BKz1 hb;replace BKv1:=aB BKv1 hb;replace BKv2:=aM (blk_below (g:=gbv2) (o:=.cells #[.int .i64 ((rd_T162 l0_1 (ji26)).f0),.int .i64 ((rd_T162 l0_1 (ji26)).f1),.slice Av1 ((rd_T162 l0_1 (ji26)).f2).length cv1,.int .i64 ((rd_T162 l0_1 (ji26)).f3.f0),.slice Av2 ((rd_T162 l0_1 (ji26)).f3.f1).length cv2] 162 (0,0)) (bX BKv2.out) hb);replace HB:=aS HB hb;clear hb hbox hg;have hnbv4:=NBv8.out;have hncv4:=NBv7.out;have hnbv5:=NBv10.out;have hncv5:=NBv9.out;have hnbv6:=NBv12.out;have hncv6:=NBv11.out;have hczv16:=cZ3 BKv3.out))
      go_ret
      exact⟨by first | rfl | (simp[errW_none,errW_some]<;>rfl) | (simp only[← hji26];first | rfl | (simp[errW_none,errW_some]<;>rfl)) | (simp[*,errW_none,errW_some]<;>rfl),(hX HB.out)⟩
     rw[if_pos rfl] at H
     go_wp2_with (first | ((with_reducible refine gate_callee (f:=173) rfl ?_);refine goesL_ (some 51) rfl rfl Tryz.func173 (by kernel_rfl) rfl #[.agg #[.int .i64 ((rd_T162 l0_1 (ji26)).f0),.int .i64 ((rd_T162 l0_1 (ji26)).f1),.slice Av1 ((rd_T162 l0_1 (ji26)).f2).length cv1,.int .i64 ((rd_T162 l0_1 (ji26)).f3.f0),.slice Av2 ((rd_T162 l0_1 (ji26)).f3.f1).length cv2],.int .i64 x27_2] rfl (by (try simp only[List.map_toArray,List.map_cons,List.map_nil]);first | done | (simp only[hji26];rfl) | rfl | (simp only[List.length_drop,List.length_take];rfl)) ?_;(with_reducible refine(XU.calls k2 ((rd_T162 l0_1 (ji26)).f0) ((rd_T162 l0_1 (ji26)).f1) _ _ ((rd_T162 l0_1 (ji26)).f2) ((rd_T162 l0_1 (ji26)).f3.f0) _ _ ((rd_T162 l0_1 (ji26)).f3.f1) x27_2 t109 t110 t111 true _ (rW HRv1 HB HCv1) (rW HRv2 HB HCv2) A29.out).mono ?_);rintro e wv4 ⟨rfl,hb⟩;refine⟨_,rfl,?_⟩;replace BKz1:=aF BKz1 hb;replace BKv1:=aF BKv1 hb;replace BKv2:=aM (blk_below (g:=gbv2) (o:=.cells #[.int .i64 ((rd_T162 l0_1 (ji26)).f0),.int .i64 ((rd_T162 l0_1 (ji26)).f1),.slice Av1 ((rd_T162 l0_1 (ji26)).f2).length cv1,.int .i64 ((rd_T162 l0_1 (ji26)).f3.f0),.slice Av2 ((rd_T162 l0_1 (ji26)).f3.f1).length cv2] 162 (0,0)) (bP BKv2.out) hb);replace HB:=aS HB hb;clear hb) | ((with_reducible refine gate_dst (N:=6) rfl ?_);(try (refine gate_guard (by rfl) ?_;dsimp only));refine boxF 6 #[.int .i64 0,.int .i64 0,.int .i64 0] 165 ?_;intro gbv3 hg wv5 hbox hb;have BKv3:=aM (hbox);have GWv3:=aG hg HB;have GEv3:=aG hg HB;have NBv7:=aL hg BKz1;have NBv8:=aR hg BKz1;have NBv9:=aL hg BKv1;have NBv10:=aR hg BKv1;have NBv11:=aM ((by rw[hg];exact Nat.ne_of_lt (blk_lt (g:=gbv2) (o:=.cells #[.int .i64 ((rd_T162 l0_1 (ji26)).f0),.int .i64 ((rd_T162 l0_1 (ji26)).f1),.slice Av1 ((rd_T162 l0_1 (ji26)).f2).length cv1,.int .i64 ((rd_T162 l0_1 (ji26)).f3.f0),.slice Av2 ((rd_T162 l0_1 (ji26)).f3.f1).length cv2] 162 (0,0)) (bX BKv2.out)):gbv2 ≠ gbv3));have NBv12:=aM ((by rw[hg];exact Nat.ne_of_gt (blk_lt (g:=gbv2) (o:=.cells #[.int .i64 ((rd_T162 l0_1 (ji26)).f0),.int .i64 ((rd_T162 l0_1 (ji26)).f1),.slice Av1 ((rd_T162 l0_1 (ji26)).f2).length cv1,.int .i64 ((rd_T162 l0_1 (ji26)).f3.f0),.slice Av2 ((rd_T162 l0_1 (ji26)).f3.f1).length cv2] 162 (0,0)) (bX BKv2.out)):gbv3 ≠ gbv2));replace BKz1:=aB BKz1 hb;replace BKv1:=aB BKv1 hb;replace BKv2:=aM (blk_below (g:=gbv2) (o:=.cells #[.int .i64 ((rd_T162 l0_1 (ji26)).f0),.int .i64 ((rd_T162 l0_1 (ji26)).f1),.slice Av1 ((rd_T162 l0_1 (ji26)).f2).length cv1,.int .i64 ((rd_T162 l0_1 (ji26)).f3.f0),.slice Av2 ((rd_T162 l0_1 (ji26)).f3.f1).length cv2] 162 (0,0)) (bX BKv2.out) hb);replace HB:=aS HB hb;clear hb hbox hg;have hnbv4:=NBv8.out;have hncv4:=NBv7.out;have hnbv5:=NBv10.out;have hncv5:=NBv9.out;have hnbv6:=NBv12.out;have hncv6:=NBv11.out;have hczv16:=cZ3 BKv3.out;have hczv19:=cZ5 BKv2.out;have hczv24:=cZ3 BKv1.out;refine Stop.out ?_))
     refine⟨?_⟩
     revert H;refine eN ?_ ?_<;>intro c31b0 c31b1 H
     ·obtain rfl:=sI H
      go_wp2
      go_ret
      exact⟨by first | rfl | (simp[errW_none,errW_some]<;>rfl) | (simp only[← hji26];first | rfl | (simp[errW_none,errW_some]<;>rfl)) | (simp[*,errW_none,errW_some]<;>rfl),(hX HB.out)⟩
     have H':=aM H
     clear H
     go_wp2
     go_roundg k2
     case measure=>have:=HJy1.out;have:=HKw1.out;omega
     case rel=>exact⟨(wrap64 (x27_2+1)),rS,H',⟨by have:=HJy1.out;have:=HKw1.out;omega⟩,⟨(bF BKz1.out)⟩,⟨(hX HB.out)⟩⟩
end Go.Proofs.YtmljebgideecjaaGreat.P2
