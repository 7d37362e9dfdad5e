/- A part of the proof of the law FnStarts: texts of this seat, merged (words, printed functions of the program, plain lemmas). Conditions: none of its own. -/
import Derived.Test.YthejoblnfpaojaaGreatPkFnStarts30
set_option linter.unusedSimpArgs false
set_option linter.unusedVariables false
set_option maxHeartbeats 8000000
set_option maxRecDepth 100000
namespace Go.Proofs.YthejoblnfpaojaaGreat.P
open Go.Proofs.YthejoblnfpaojaaGreatZ Go.RowKit Go.Proofs.YthejoblnfpaojaaGreatW.PrintWords Go.Proofs.YthejoblnfpaojaaGreatW.PrintLast Go.Proofs.YthejoblnfpaojaaGreatW.PrintMore
attribute [local go_sem] max2_int min2_int max_two min_two max_three min_three max_four min_four   -- for this text's walks alone
mutual
def X3.j0:Nat→Bool→Int→Int→Int→List Int→Int→Option (List Int × Int)
 | 0,_,_,_,_,_,_=>none
 | k+1,x19,x103000,x103001,x103002,x110000,x110001=>if x19=true then (some (x110000,x110001)) else (if x103000=1 then (X3.j1 k x103000 (x103000 == 1) x103000 x103001 x103002 x110000 x110001) else (X3.j1 k x103000 (x103000 == 2) x103000 x103001 x103002 x110000 x110001))
def X3.j1:Nat→Int→Bool→Int→Int→Int→List Int→Int→Option (List Int × Int)
 | 0,_,_,_,_,_,_,_=>none
 | k+1,x22,x23,x103000,x103001,x103002,x110000,x110001=>if x23=true then (if 0≤x103001 then (if x103001<(x110000.length:Int) then (some ((x110000.set (x103001:Int).toNat x103002),x110001)) else (none)) else (none)) else (if x22=3 then (if 0≤x103001 then (if x103001<(x110000.length:Int) then (some ((x110000.set (x103001:Int).toNat 0),x110001)) else (none)) else (none)) else (if x22=8 then (some (x110000,wrap64 (x110001+1))) else (if x22=9 then (some (x110000,wrap64 (x110001+1))) else (some (x110000,x110001)))))
end
def X3.f (k:Nat) (l0_0:List Int) (a0_1:Int) (a1_0:Int) (a1_1:Int) (a1_2:Int) (a2_0:Int) (l2_1:List Int):Option (List Int × Int):=(Xab.f l0_0 a0_1).bind fun bt105=>((X9.f k l0_0 a0_1 a1_0 a1_1 a1_2 a2_0 l2_1).bind fun t110=>(if t110=true then (X3.j0 k (a2_0 != 0) a1_0 a1_1 a1_2 bt105.1 bt105.2) else (X3.j0 k true a1_0 a1_1 a1_2 bt105.1 bt105.2)))
theorem X3.calls (k:Nat) (A0_0:Option Addr) (c0_0:Nat) (l0_0:List Int) (a0_1:Int) (a1_0:Int) (a1_1:Int) (a1_2:Int) (a2_0:Int) (A2_1:Option Addr) (c2_1:Nat) (l2_1:List Int) (r1:List Int) (r2:Int) (w:World) (h0_0:Rw (Kd.int .i64) w A0_0 c0_0 l0_0) (h2_1:Rw (Kd.int .i64) w A2_1 c2_1 l2_1) (h:X3.f k l0_0 a0_1 a1_0 a1_1 a1_2 a2_0 l2_1=some (r1,r2)) :
  Calls Tryz.prog 87 #[.agg #[.slice A0_0 l0_0.length c0_0,.int .i64 a0_1],.agg #[.int .i64 a1_0,.int .i64 a1_1,.int .i64 a1_2],.agg #[.int .i64 a2_0,.slice A2_1 l2_1.length c2_1]] w fun e w'=>∃ v0_:Value,e = .returned (.agg #[v0_,.int .i64 r2])∧Kd.R (Kd.int .i64) 3 w' w.heap.size (fun _=>True) v0_ r1∧Below w.heap.size w w':=by
 have hu26:=Tryz.underlying26
 have hu78:=Tryz.underlying78
 have hu56:=Tryz.underlying56
 obtain⟨HR0_0,HC0_0⟩:=h0_0
 obtain⟨HR2_1,HC2_1⟩:=h2_1
 have HB:=aM (Below.refl w.heap.size w)
 have H:=h
 unfold X3.f at H
 clear h
 replace H:=bE H;obtain⟨⟨t105,t108⟩,A4,H⟩:=H
 try dsimp only at H
 have HC5:=aM H
 clear H
 go_enter Tryz.func87,Tryz.ntmps87
 go_upto_region 2 with(first | ((with_reducible refine gate_dst (N:=3) rfl ?_);refine boxE 3 #[.slice A0_0 l0_0.length c0_0,.int .i64 a0_1] 26 ?_;intro gbz1 hg wz1 hbox hb;have BKz1:=aM (hbox);have GWz1:=aG hg HB;replace HB:=aS HB hb;clear hb hbox hg) | ((with_reducible refine gate_dst (N:=4) rfl ?_);refine boxE 4 #[.int .i64 a1_0,.int .i64 a1_1,.int .i64 a1_2] 78 ?_;intro gbz2 hg wz2 hbox hb;have BKz2:=aM (hbox);have GWz2:=aG hg HB;have NBz1:=aL hg BKz1;have NBz2:=aR hg BKz1;replace BKz1:=aB BKz1 hb;replace HB:=aS HB hb;clear hb hbox hg) | ((with_reducible refine gate_dst (N:=5) rfl ?_);refine boxE 5 #[.int .i64 a2_0,.slice A2_1 l2_1.length c2_1] 56 ?_;intro gbz3 hg wz3 hbox hb;have BKz3:=aM (hbox);have GWz3:=aG hg HB;have NBz3:=aL hg BKz1;have NBz4:=aR hg BKz1;have NBz5:=aL hg BKz2;have NBz6:=aR hg BKz2;replace BKz1:=aB BKz1 hb;replace BKz2:=aB BKz2 hb;replace HB:=aS HB hb;clear hb hbox hg) | ((with_reducible refine gate_dst (N:=6) rfl ?_);refine boxE 6 #[.slice none 0 0,.int .i64 0] 26 ?_;intro gbz4 hg wz4 hbox hb;have BKz4:=aM (hbox);have GWz4:=aG hg HB;have NBz7:=aL hg BKz1;have NBz8:=aR hg BKz1;have NBz9:=aL hg BKz2;have NBz10:=aR hg BKz2;have NBz11:=aL hg BKz3;have NBz12:=aR hg BKz3;replace BKz1:=aB BKz1 hb;replace BKz2:=aB BKz2 hb;replace BKz3:=aB BKz3 hb;replace HB:=aS HB hb;clear hb hbox hg;have hnbz1:=nB NBz1 NBz2;have hnbz2:=nB NBz3 NBz4;have hnbz3:=nB NBz7 NBz8;have hczz1:=cZ2 BKz1.out) | ((with_reducible refine gate_callee (f:=78) rfl ?_);refine goesM 78 9 Tryz.func78 #[.agg #[.slice A0_0 l0_0.length c0_0,.int .i64 a0_1]] ?_;refine(Xab.calls _ _ _ _ _ _ _ (rW HR0_0 HB HC0_0) A4.out).mono ?_;rintro e wz5 ⟨vz1,rfl,hoz1,hb⟩;refine⟨_,rfl,?_⟩;have HOz1:=aM (Kd.R_lower hoz1 (below_size (hX HB.out)));replace BKz1:=aB BKz1 hb;replace BKz2:=aB BKz2 hb;replace BKz3:=aB BKz3 hb;replace BKz4:=aB BKz4 hb;replace HB:=aS HB hb;clear hb hoz1) | ((with_reducible refine gate_dst (N:=7) rfl ?_);refine boxE 7 #[.slice none 0 0,.int .i64 0] 26 ?_;intro gbz5 hg wz6 hbox hb;have BKz5:=aM (hbox);have GWz5:=aG hg HB;have NBz13:=aL hg BKz1;have NBz14:=aR hg BKz1;have NBz15:=aL hg BKz2;have NBz16:=aR hg BKz2;have NBz17:=aL hg BKz3;have NBz18:=aR hg BKz3;have NBz19:=aL hg BKz4;have NBz20:=aR hg BKz4;replace HOz1:=aQ HOz1 hb;replace BKz1:=aB BKz1 hb;replace BKz2:=aB BKz2 hb;replace BKz3:=aB BKz3 hb;replace BKz4:=aB BKz4 hb;replace HB:=aS HB hb;clear hb hbox hg;obtain⟨Aoz1,coz1,eoz1⟩:=Kd.R_slice HOz1.out;subst eoz1;have hnbz4:=nB NBz14 NBz13;have hnbz5:=nB NBz16 NBz15;have hnbz6:=nB NBz18 NBz17;have hnbz7:=nB NBz20 NBz19;have hczz3:=cZ2 BKz5.out))
 (try simp only[Act.put,List.setIfInBounds_toArray,List.set_cons_zero,List.set_cons_succ])
 go_cut [19] (fun vz2 wc=>∃ (kq:Nat) (x19_4:Bool),vz2 = .bool x19_4∧Aside0 (X3.j0 kq x19_4 a1_0 a1_1 a1_2 t105 t108=some (r1,r2))∧Aside0 (kq≤k)∧Aside0 (Kd.R (Kd.int .i64) 3 wc w.heap.size (fun _=>True) (.slice Aoz1 t105.length coz1) t105)∧Aside0 (wc.heap[gbz1]? = some (.cells #[(.slice A0_0 l0_0.length c0_0),.int .i64 a0_1] 26 (0,0)))∧Aside0 (wc.heap[gbz2]? = some (.cells #[.int .i64 a1_0,.int .i64 a1_1,.int .i64 a1_2] 78 (0,0)))∧Aside0 (wc.heap[gbz3]? = some (.cells #[.int .i64 a2_0,(.slice A2_1 l2_1.length c2_1)] 56 (0,0)))∧Aside0 (wc.heap[gbz4]? = some (.cells #[(.slice none 0 0),.int .i64 0] 26 (0,0)))∧Aside0 (wc.heap[gbz5]? = some (.cells #[(.slice Aoz1 t105.length coz1),.int .i64 t108] 26 (0,0)))∧Aside0 (Below w.heap.size w wc))
 case first =>
  have H:=HC5.out
  clear HC5
  replace H:=bE H;obtain⟨t110,A22,H⟩:=H
  cases t110
  case false =>
   rw[if_neg nft] at H
   have H':=aM H
   clear H
   have hnby1:=NBz1.out
   have hncy1:=NBz2.out
   have hnby2:=NBz3.out
   have hncy2:=NBz4.out
   have hnby3:=NBz7.out
   have hncy3:=NBz8.out
   have hnby4:=NBz13.out
   have hncy4:=NBz14.out
   have hczy1:=cZ2 BKz1.out
   have hnby5:=NBz5.out
   have hncy5:=NBz6.out
   have hnby6:=NBz9.out
   have hncy6:=NBz10.out
   have hnby7:=NBz15.out
   have hncy7:=NBz16.out
   have hczy3:=cZ3 BKz2.out
   have hnby8:=NBz11.out
   have hncy8:=NBz12.out
   have hnby9:=NBz17.out
   have hncy9:=NBz18.out
   have hczy6:=cZ2 BKz3.out
   go_wp2_with (refine gB 86 13 Tryz.func86 (X9.calls k _ _ l0_0 a0_1 a1_0 a1_1 a1_2 a2_0 _ _ l2_1 false _ (rW HR0_0 HB HC0_0) (rW HR2_1 HB HC2_1) A22.out) ?_;intro wy1 hb;replace HOz1:=aM (Kd.R_below (rF HOz1.out BKz5.out) hb);replace BKz1:=aF BKz1 hb;replace BKz2:=aF BKz2 hb;replace BKz3:=aF BKz3 hb;replace BKz4:=aF BKz4 hb;replace BKz5:=aM (blk_below (g:=gbz5) (o:=.cells #[.slice Aoz1 t105.length coz1,.int .i64 t108] 26 (0,0)) (bP BKz5.out) hb);replace HB:=aS HB hb;clear hb)
   go_meet
   case rel=>exact⟨_,(true),rS,H',⟨by first | omega | exact Nat.le_refl _⟩,⟨(rX HOz1.out)⟩,⟨(bX BKz1.out)⟩,⟨(bX BKz2.out)⟩,⟨(bX BKz3.out)⟩,⟨(bX BKz4.out)⟩,⟨(bX BKz5.out)⟩,⟨(hX HB.out)⟩⟩
  rw[if_pos rfl] at H
  have H':=aM H
  clear H
  have hnby1:=NBz1.out
  have hncy1:=NBz2.out
  have hnby2:=NBz3.out
  have hncy2:=NBz4.out
  have hnby3:=NBz7.out
  have hncy3:=NBz8.out
  have hnby4:=NBz13.out
  have hncy4:=NBz14.out
  have hczy1:=cZ2 BKz1.out
  have hnby5:=NBz5.out
  have hncy5:=NBz6.out
  have hnby6:=NBz9.out
  have hncy6:=NBz10.out
  have hnby7:=NBz15.out
  have hncy7:=NBz16.out
  have hczy3:=cZ3 BKz2.out
  have hnby8:=NBz11.out
  have hncy8:=NBz12.out
  have hnby9:=NBz17.out
  have hncy9:=NBz18.out
  have hczy6:=cZ2 BKz3.out
  go_wp2_with (refine gB 86 13 Tryz.func86 (X9.calls k _ _ l0_0 a0_1 a1_0 a1_1 a1_2 a2_0 _ _ l2_1 true _ (rW HR0_0 HB HC0_0) (rW HR2_1 HB HC2_1) A22.out) ?_;intro wy1 hb;replace HOz1:=aM (Kd.R_below (rF HOz1.out BKz5.out) hb);replace BKz1:=aF BKz1 hb;replace BKz2:=aF BKz2 hb;replace BKz3:=aF BKz3 hb;replace BKz4:=aF BKz4 hb;replace BKz5:=aM (blk_below (g:=gbz5) (o:=.cells #[.slice Aoz1 t105.length coz1,.int .i64 t108] 26 (0,0)) (bP BKz5.out) hb);replace HB:=aS HB hb;clear hb;have hczy8:=cZ2 BKz3.out)
  go_meet
  case rel=>exact⟨_,((a2_0 != 0)),rS,H',⟨by first | omega | exact Nat.le_refl _⟩,⟨(rX HOz1.out)⟩,⟨(bX BKz1.out)⟩,⟨(bX BKz2.out)⟩,⟨(bX BKz3.out)⟩,⟨(bX BKz4.out)⟩,⟨(bX BKz5.out)⟩,⟨(hX HB.out)⟩⟩
 case rest =>
  clear HC5
  try clear hczz1
  try clear hczz3
  obtain⟨kq,x19_4,rfl,HA,HJy1,HO_y1,BKz1,BKz2,BKz3,BKz4,BKz5,HB⟩:=hcut
  cases kq with
  | zero=>exact absurd HA.out (by simp[X3.j0])
  | succ kj4 =>
   have H:=HA.out
   clear HA
   simp only[X3.j0] at H
   cases x19_4
   case true =>
    rw[if_pos rfl] at H
    simp only[Option.some.injEq,Prod.mk.injEq] at H
    obtain⟨rfl,rfl⟩:=H
    have hnbx1:=NBz14.out
    have hncx1:=NBz13.out
    have hnbx2:=NBz16.out
    have hncx2:=NBz15.out
    have hnbx3:=NBz18.out
    have hncx3:=NBz17.out
    have hnbx4:=NBz20.out
    have hncx4:=NBz19.out
    have hczx1:=cZ2 BKz5.out
    have hnbx5:=nB NBz8 NBz7
    have hnbx6:=nB NBz10 NBz9
    have hnbx7:=nB NBz12 NBz11
    have hczx3:=cZ2 BKz4.out
    go_wp2
    refine bodyPost_ret (results_cell_row rfl _ _ gbz4 26 #[.slice Aoz1 t105.length coz1,.int .i64 t108] (0,0) _ rfl (bP BKz4.out) Tryz.underlying26 rfl (by kernel_rfl)) rfl ?_
    exact⟨_,rE,(Kd.R_mono (rF HO_y1.out BKz4.out) (fun _ hk=>trivial)),(hX HB.out)⟩
   rw[if_neg nft] at H
   have HC61:=aM H
   clear H
   have hnbx1:=NBz2.out
   have hncx1:=NBz1.out
   have hnbx2:=NBz5.out
   have hncx2:=NBz6.out
   have hnbx3:=NBz9.out
   have hncx3:=NBz10.out
   have hnbx4:=NBz15.out
   have hncx4:=NBz16.out
   have hczx1:=cZ3 BKz2.out
   go_upto_if 23 with(fail)
   go_cut [23] (fun vx1 wc=>∃ (kq:Nat) (x23_60:Bool),vx1 = .bool x23_60∧Aside0 (X3.j1 kq a1_0 x23_60 a1_0 a1_1 a1_2 t105 t108=some (r1,r2))∧Aside0 (kq≤kj4)∧Aside0 (Kd.R (Kd.int .i64) 3 wc w.heap.size (fun _=>True) (.slice Aoz1 t105.length coz1) t105)∧Aside0 (wc.heap[gbz1]? = some (.cells #[(.slice A0_0 l0_0.length c0_0),.int .i64 a0_1] 26 (0,0)))∧Aside0 (wc.heap[gbz2]? = some (.cells #[.int .i64 a1_0,.int .i64 a1_1,.int .i64 a1_2] 78 (0,0)))∧Aside0 (wc.heap[gbz3]? = some (.cells #[.int .i64 a2_0,(.slice A2_1 l2_1.length c2_1)] 56 (0,0)))∧Aside0 (wc.heap[gbz4]? = some (.cells #[(.slice none 0 0),.int .i64 0] 26 (0,0)))∧Aside0 (wc.heap[gbz5]? = some (.cells #[(.slice Aoz1 t105.length coz1),.int .i64 t108] 26 (0,0)))∧Aside0 (Below w.heap.size w wc))
   case first =>
    have H:=HC61.out
    clear HC61
    revert H;refine eN ?_ ?_<;>intro c67b0 c67b1 H
    ·(first | rw[c67b0] | (simp only[i64_w,i32_w];rw[c67b0]) | skip)
     have H':=aM H
     clear H
     go_wp2
     go_meet
     case rel=>exact⟨_,((a1_0 == 2)),rS,H',⟨by have:=HJy1.out;first | omega | exact Nat.le_refl _⟩,⟨(rX HO_y1.out)⟩,⟨(bX BKz1.out)⟩,⟨(bX BKz2.out)⟩,⟨(bX BKz3.out)⟩,⟨(bX BKz4.out)⟩,⟨(bX BKz5.out)⟩,⟨(hX HB.out)⟩⟩
    (first | rw[c67b0] | (simp only[i64_w,i32_w];rw[c67b0]) | skip)
    have H':=aM H
    clear H
    go_wp2
    go_meet
    case rel=>exact⟨_,((a1_0 == 1)),rS,H',⟨by have:=HJy1.out;first | omega | exact Nat.le_refl _⟩,⟨(rX HO_y1.out)⟩,⟨(bX BKz1.out)⟩,⟨(bX BKz2.out)⟩,⟨(bX BKz3.out)⟩,⟨(bX BKz4.out)⟩,⟨(bX BKz5.out)⟩,⟨(hX HB.out)⟩⟩
   case rest =>
    clear HC61
    try clear hczz1
    try clear hczz3
    try clear hczx1 hczx3
    obtain⟨kq,x23_60,rfl,HA,HJw1,HO_y1,BKz1,BKz2,BKz3,BKz4,BKz5,HB⟩:=hcut
    cases kq with
    | zero=>exact absurd HA.out (by simp[X3.j1])
    | succ kj60 =>
     have H:=HA.out
     clear HA
     simp only[X3.j1] at H
     cases x23_60
     case true =>
      rw[if_pos rfl] at H
      replace H:=ifQ H;obtain⟨c69b0,H⟩:=H
      replace H:=ifQ H;obtain⟨c70b0,H⟩:=H
      obtain⟨y111,hy111⟩:∃ y_:List Int,y_=(t105.set (a1_1:Int).toNat a1_2):=⟨_,rfl⟩
      replace H:(some (y111,t108))=some (r1,r2):=yH H hy111
      have Ny111:=aM hy111
      clear hy111
      simp only[Option.some.injEq,Prod.mk.injEq] at H
      obtain⟨rfl,rfl⟩:=H
      have hnbv1:=NBz14.out
      have hncv1:=NBz13.out
      have hnbv2:=NBz16.out
      have hncv2:=NBz15.out
      have hnbv3:=NBz18.out
      have hncv3:=NBz17.out
      have hnbv4:=NBz20.out
      have hncv4:=NBz19.out
      have hczv1:=cZ2 BKz5.out
      have hnbv5:=NBz2.out
      have hncv5:=NBz1.out
      have hnbv6:=NBz5.out
      have hncv6:=NBz6.out
      have hnbv7:=NBz9.out
      have hncv7:=NBz10.out
      have hczv3:=cZ3 BKz2.out
      have pv1:0≤(a1_1:Int):=odA
      have qv1:(a1_1:Int)<((t105.length:Int):Int):=odA
      obtain⟨gov1,cov1,eov1,gbv1,glv1,clv1,HGv1⟩:=Kd.R_form HO_y1.out (by omega)
      (first | cases eov1 | (injection eov1 with ea_ en_ ec_;(first | subst ea_ | (injection ea_ with ea_;subst ea_));subst ec_;clear en_))
      have GBv1:=aM gbv1
      have GGv1:=aM HGv1
      clear gbv1 glv1 HGv1
      obtain⟨hxv1,hfv1⟩:=Kd.R_celln 0 HO_y1.out (a1_1:Int) pv1 qv1
      replace pv1:=eq_true pv1
      replace qv1:=eq_true qv1
      have HPv1:=Kd.R_putg HO_y1.out (a1_1:Int) a1_2
      go_wp2_with ((with_reducible refine gate_store (t:=3) (p:=32) rfl ?_);refine store_event (t:=3) (p:=32) (v:=?vo_wv1) (w1:=(wc.setCell ⟨gov1,(a1_1:Int).toNat,none⟩ (.int .i64 a1_2))) ?hg ?ho ?hn ?hr ?_;(case ho=>rfl);(case hg=>rfl);(case hn=>rfl);(case hr=>first | (go_simp;done) | (go_simp;rfl));intro wv1 hw;have hg:wc.grownBy wv1 (some gov1):=(by rw[hw];exact HPv1.2);have hp_:Kd.R (Kd.int .i64) 3 wv1 w.heap.size (fun _=>True) (.slice (some ⟨gov1,0,none⟩) t105.length coz1) y111:=(by rw[hw,Ny111.out];exact HPv1.1);clear HPv1;replace BKz1:=aM (blk_grown (g:=gbz1) (o:=.cells #[.slice A0_0 l0_0.length c0_0,.int .i64 a0_1] 26 (0,0)) (bX BKz1.out) hg (Kd.R_ne HO_y1.out BKz1.out (by decide)));replace BKz2:=aM (blk_grown (g:=gbz2) (o:=.cells #[.int .i64 a1_0,.int .i64 a1_1,.int .i64 a1_2] 78 (0,0)) (bX BKz2.out) hg (Kd.R_ne HO_y1.out BKz2.out (by decide)));replace BKz3:=aM (blk_grown (g:=gbz3) (o:=.cells #[.int .i64 a2_0,.slice A2_1 l2_1.length c2_1] 56 (0,0)) (bX BKz3.out) hg (Kd.R_ne HO_y1.out BKz3.out (by decide)));replace BKz4:=aM (blk_grown (g:=gbz4) (o:=.cells #[.slice none 0 0,.int .i64 0] 26 (0,0)) (bX BKz4.out) hg (Kd.R_ne HO_y1.out BKz4.out (by decide)));replace BKz5:=aM (blk_grown (g:=gbz5) (o:=.cells #[.slice (some ⟨gov1,0,none⟩) t105.length coz1,.int .i64 t108] 26 (0,0)) (bX BKz5.out) hg (Kd.R_ne HO_y1.out BKz5.out (by decide)));replace HO_y1:=aM (hp_);replace HB:=aM ((by rw[hw];exact below_set (HB.out) GBv1.out:Below w.heap.size w wv1));clear hg hw hp_;have hczv6:=cZ2 BKz5.out;have hnbv8:=NBz8.out;have hncv8:=NBz7.out;have hnbv9:=NBz12.out;have hncv9:=NBz11.out;have hczv8:=cZ2 BKz4.out)
      refine bodyPost_ret (results_cell_row rfl _ _ gbz4 26 #[.slice (some ⟨gov1,0,none⟩) t105.length coz1,.int .i64 t108] (0,0) _ rfl (by (with_reducible repeat (first | refine blk_drewN ?_ _ | refine blk_drew ?_ | refine blk_alloc ?_ _));refine blk_put (cs:=#[.slice (some ⟨gov1,0,none⟩) t105.length coz1,.int .i64 0]) ?_ 1 _ rfl;(with_reducible repeat (first | refine blk_drewN ?_ _ | refine blk_drew ?_ | refine blk_alloc ?_ _));refine blk_put (cs:=#[.slice none 0 0,.int .i64 0]) ?_ 0 _ rfl;(with_reducible repeat (first | refine blk_drewN ?_ _ | refine blk_drew ?_ | refine blk_alloc ?_ _));exact BKz4.out) Tryz.underlying26 rfl (by kernel_rfl)) rfl ?_
      exact⟨_,rE,(Kd.R_mono (rF HO_y1.out BKz4.out) (fun _ hk=>trivial)),(hX HB.out)⟩
     rw[if_neg nft] at H
     revert H;refine eP ?_ ?_<;>intro c87b0 c87b1 H
     ·replace H:=ifP H;obtain⟨c88,H⟩:=H
      have c88b0:=decide_eq_true c88
      clear c88
      replace H:=ifQ H;obtain⟨c89b0,H⟩:=H
      obtain⟨y112,hy112⟩:∃ y_:List Int,y_=(t105.set (a1_1:Int).toNat 0):=⟨_,rfl⟩
      replace H:(some (y112,t108))=some (r1,r2):=yH H hy112
      have Ny112:=aM hy112
      clear hy112
      simp only[Option.some.injEq,Prod.mk.injEq] at H
      obtain⟨rfl,rfl⟩:=H
      have hnbv1:=NBz14.out
      have hncv1:=NBz13.out
      have hnbv2:=NBz16.out
      have hncv2:=NBz15.out
      have hnbv3:=NBz18.out
      have hncv3:=NBz17.out
      have hnbv4:=NBz20.out
      have hncv4:=NBz19.out
      have hczv1:=cZ2 BKz5.out
      have hnbv5:=NBz2.out
      have hncv5:=NBz1.out
      have hnbv6:=NBz5.out
      have hncv6:=NBz6.out
      have hnbv7:=NBz9.out
      have hncv7:=NBz10.out
      have hczv3:=cZ3 BKz2.out
      have pv1:0≤(a1_1:Int):=odA
      have qv1:(a1_1:Int)<((t105.length:Int):Int):=odA
      obtain⟨gov1,cov1,eov1,gbv1,glv1,clv1,HGv1⟩:=Kd.R_form HO_y1.out (by omega)
      (first | cases eov1 | (injection eov1 with ea_ en_ ec_;(first | subst ea_ | (injection ea_ with ea_;subst ea_));subst ec_;clear en_))
      have GBv1:=aM gbv1
      have GGv1:=aM HGv1
      clear gbv1 glv1 HGv1
      obtain⟨hxv1,hfv1⟩:=Kd.R_celln 0 HO_y1.out (a1_1:Int) pv1 qv1
      replace pv1:=eq_true pv1
      replace qv1:=eq_true qv1
      have HPv1:=Kd.R_putg HO_y1.out (a1_1:Int) 0
      go_wp2_with ((with_reducible refine gate_store (t:=3) (p:=39) rfl ?_);refine store_event (t:=3) (p:=39) (v:=?vo_wv1_510) (w1:=(wc.setCell ⟨gov1,(a1_1:Int).toNat,none⟩ (.int .i64 0))) ?hg ?ho ?hn ?hr ?_;(case ho=>rfl);(case hg=>rfl);(case hn=>rfl);(case hr=>first | (go_simp;done) | (go_simp;rfl));intro wv1 hw;have hg:wc.grownBy wv1 (some gov1):=(by rw[hw];exact HPv1.2);have hp_:Kd.R (Kd.int .i64) 3 wv1 w.heap.size (fun _=>True) (.slice (some ⟨gov1,0,none⟩) t105.length coz1) y112:=(by rw[hw,Ny112.out];exact HPv1.1);clear HPv1;replace BKz1:=aM (blk_grown (g:=gbz1) (o:=.cells #[.slice A0_0 l0_0.length c0_0,.int .i64 a0_1] 26 (0,0)) (bX BKz1.out) hg (Kd.R_ne HO_y1.out BKz1.out (by decide)));replace BKz2:=aM (blk_grown (g:=gbz2) (o:=.cells #[.int .i64 a1_0,.int .i64 a1_1,.int .i64 a1_2] 78 (0,0)) (bX BKz2.out) hg (Kd.R_ne HO_y1.out BKz2.out (by decide)));replace BKz3:=aM (blk_grown (g:=gbz3) (o:=.cells #[.int .i64 a2_0,.slice A2_1 l2_1.length c2_1] 56 (0,0)) (bX BKz3.out) hg (Kd.R_ne HO_y1.out BKz3.out (by decide)));replace BKz4:=aM (blk_grown (g:=gbz4) (o:=.cells #[.slice none 0 0,.int .i64 0] 26 (0,0)) (bX BKz4.out) hg (Kd.R_ne HO_y1.out BKz4.out (by decide)));replace BKz5:=aM (blk_grown (g:=gbz5) (o:=.cells #[.slice (some ⟨gov1,0,none⟩) t105.length coz1,.int .i64 t108] 26 (0,0)) (bX BKz5.out) hg (Kd.R_ne HO_y1.out BKz5.out (by decide)));replace HO_y1:=aM (hp_);replace HB:=aM ((by rw[hw];exact below_set (HB.out) GBv1.out:Below w.heap.size w wv1));clear hg hw hp_;have hczv6:=cZ2 BKz5.out;have hnbv8:=NBz8.out;have hncv8:=NBz7.out;have hnbv9:=NBz12.out;have hncv9:=NBz11.out;have hczv8:=cZ2 BKz4.out)
      refine bodyPost_ret (results_cell_row rfl _ _ gbz4 26 #[.slice (some ⟨gov1,0,none⟩) t105.length coz1,.int .i64 t108] (0,0) _ rfl (by (with_reducible repeat (first | refine blk_drewN ?_ _ | refine blk_drew ?_ | refine blk_alloc ?_ _));refine blk_put (cs:=#[.slice (some ⟨gov1,0,none⟩) t105.length coz1,.int .i64 0]) ?_ 1 _ rfl;(with_reducible repeat (first | refine blk_drewN ?_ _ | refine blk_drew ?_ | refine blk_alloc ?_ _));refine blk_put (cs:=#[.slice none 0 0,.int .i64 0]) ?_ 0 _ rfl;(with_reducible repeat (first | refine blk_drewN ?_ _ | refine blk_drew ?_ | refine blk_alloc ?_ _));exact BKz4.out) Tryz.underlying26 rfl (by kernel_rfl)) rfl ?_
      exact⟨_,rE,(Kd.R_mono (rF HO_y1.out BKz4.out) (fun _ hk=>trivial)),(hX HB.out)⟩
     revert H;refine eP ?_ ?_<;>intro c106b0 c106b1 H
     ·simp only[Option.some.injEq,Prod.mk.injEq] at H
      obtain⟨rfl,rfl⟩:=H
      have hnbv1:=NBz14.out
      have hncv1:=NBz13.out
      have hnbv2:=NBz16.out
      have hncv2:=NBz15.out
      have hnbv3:=NBz18.out
      have hncv3:=NBz17.out
      have hnbv4:=NBz20.out
      have hncv4:=NBz19.out
      have hczv1:=cZ2 BKz5.out
      have hnbv5:=NBz8.out
      have hncv5:=NBz7.out
      have hnbv6:=NBz10.out
      have hncv6:=NBz9.out
      have hnbv7:=NBz12.out
      have hncv7:=NBz11.out
      have hczv3:=cZ2 BKz4.out
      go_wp2
      refine bodyPost_ret (results_cell_row rfl _ _ gbz4 26 #[.slice Aoz1 t105.length coz1,.int .i64 (wrap64 (t108+1))] (0,0) _ rfl (bP BKz4.out) Tryz.underlying26 rfl (by kernel_rfl)) rfl ?_
      exact⟨_,rE,(Kd.R_mono (rF2 HO_y1.out BKz5.out BKz4.out) (fun _ hk=>trivial)),(hX HB.out)⟩
     revert H;refine eN ?_ ?_<;>intro c116b0 c116b1 H
     ·simp only[Option.some.injEq,Prod.mk.injEq] at H
      obtain⟨rfl,rfl⟩:=H
      have hnbv1:=NBz14.out
      have hncv1:=NBz13.out
      have hnbv2:=NBz16.out
      have hncv2:=NBz15.out
      have hnbv3:=NBz18.out
      have hncv3:=NBz17.out
      have hnbv4:=NBz20.out
      have hncv4:=NBz19.out
      have hczv1:=cZ2 BKz5.out
      have hnbv5:=NBz8.out
      have hncv5:=NBz7.out
      have hnbv6:=NBz10.out
      have hncv6:=NBz9.out
      have hnbv7:=NBz12.out
      have hncv7:=NBz11.out
      have hczv3:=cZ2 BKz4.out
      go_wp2
      refine bodyPost_ret (results_cell_row rfl _ _ gbz4 26 #[.slice Aoz1 t105.length coz1,.int .i64 t108] (0,0) _ rfl (bP BKz4.out) Tryz.underlying26 rfl (by kernel_rfl)) rfl ?_
      exact⟨_,rE,(Kd.R_mono (rF HO_y1.out BKz4.out) (fun _ hk=>trivial)),(hX HB.out)⟩
     simp only[Option.some.injEq,Prod.mk.injEq] at H
     obtain⟨rfl,rfl⟩:=H
     have hnbv1:=NBz14.out
     have hncv1:=NBz13.out
     have hnbv2:=NBz16.out
     have hncv2:=NBz15.out
     have hnbv3:=NBz18.out
     have hncv3:=NBz17.out
     have hnbv4:=NBz20.out
     have hncv4:=NBz19.out
     have hczv1:=cZ2 BKz5.out
     have hnbv5:=NBz8.out
     have hncv5:=NBz7.out
     have hnbv6:=NBz10.out
     have hncv6:=NBz9.out
     have hnbv7:=NBz12.out
     have hncv7:=NBz11.out
     have hczv3:=cZ2 BKz4.out
     go_wp2
     refine bodyPost_ret (results_cell_row rfl _ _ gbz4 26 #[.slice Aoz1 t105.length coz1,.int .i64 (wrap64 (t108+1))] (0,0) _ rfl (bP BKz4.out) Tryz.underlying26 rfl (by kernel_rfl)) rfl ?_
     exact⟨_,rE,(Kd.R_mono (rF2 HO_y1.out BKz5.out BKz4.out) (fun _ hk=>trivial)),(hX HB.out)⟩
end Go.Proofs.YthejoblnfpaojaaGreat.P
