/- A part of the proof of the law FnExactReplay: texts of this seat, merged (words, printed functions of the program, plain lemmas). Conditions: none of its own. -/
import Derived.Test.YtmljebgideecjaaGreatP2kFnExactReplay21
import Derived.Test.YtmljebgideecjaaGreatP2kFnExactReplay28
import Derived.Test.YtmljebgideecjaaGreatP2kFnExactReplay30
set_option linter.unusedSimpArgs false
set_option linter.unusedVariables false
set_option maxHeartbeats 8000000
set_option maxRecDepth 100000
namespace Go.Proofs.YtmljebgideecjaaGreat.P2
open Go.RowKit Go.Proofs.YtmljebgideecjaaGreatW.PrintWords Go.Proofs.YtmljebgideecjaaGreatW.PrintLast Go.Proofs.YtmljebgideecjaaGreatZ
abbrev lCall:=S119
abbrev iCall:=S73
def cCall (x:lCall):iCall:=⟨x.f0,⟨x.f1.f0,x.f1.f1,x.f1.f2⟩,x.f2,x.f3,x.f4,⟨x.f5.f0,x.f5.f1⟩⟩
def wtCall (x:lCall):Int:=(x.f5.f1.length:Int)
def smCall (x:iCall):Prop:=x.f5.f1.length≤1048576
theorem wtCall_nn (x:lCall):0≤wtCall x:=by unfold wtCall;omega
theorem smCall_of (x:lCall) (h:wtCall x≤1048576):smCall (cCall x):=by
 unfold wtCall at h
 simp only[smCall,cCall,List.length_map]
 omega
theorem szCall_eq (x:lCall) (t:Int) (h0:0≤t) (h1:t≤1048576) (hw:x.f5.f1.length≤9223372036854775807):Xbe.f x.f0 x.f1.f0 x.f1.f1 x.f1.f2 x.f2 x.f3 x.f4 x.f5.f0 x.f5.f1 t=some (lf (wtCall x) t):=by
 unfold wtCall
 simp only[Xbe.f]
 rw[szRes_eq _ _ t h0 h1 hw,Option.bind_some]
 exact lf_last (by omega)
theorem toCall_ev (x:lCall) (h:wtCall x≤1048576):Ev (fun k=>Xbg.f k x.f0 x.f1.f0 x.f1.f1 x.f1.f2 x.f2 x.f3 x.f4 x.f5.f0 x.f5.f1) (x.f0,x.f1.f0,x.f1.f1,x.f1.f2,x.f2,x.f3,x.f4,x.f5.f0,x.f5.f1):=by
 unfold wtCall at h
 simp only[Xbg.f,Xa6.f,Option.bind_some]
 exact Ev.bind (toRes_ev _ _ (by omega)) (Ev.now _)
theorem eqCall_ev (x:iCall) (h:smCall x):Ev (fun k=>XaZ.f k x.f0 x.f1.f0 x.f1.f1 x.f1.f2 x.f2 x.f3 x.f4 x.f5.f0 x.f5.f1 x.f0 x.f1.f0 x.f1.f1 x.f1.f2 x.f2 x.f3 x.f4 x.f5.f0 x.f5.f1) true:=by
 unfold smCall at h
 simp only[XaZ.f,XaR.f,if_true,Option.bind_some]
 refine Ev.bind (eqRes_ev _ _ (by omega)) ?_
 simp only[if_true]
 exact Ev.now _
theorem szCallS_ev (l:List lCall) (hl:l.length≤9223372036854775807) (hw:∀ x ∈ l,x.f5.f1.length≤9223372036854775807) (t:Int) (h0:0≤t) (h1:t≤1048576):Ev (fun k=>XT.f k l t) (lf (l.length+ctl wtCall l) t):=by
 have hc:=ctl_nonneg wtCall_nn l
 have e:wrap64 (t - (l.length:Int))=t - l.length:=w64 (by omega) (by omega)
 simp only[XT.f,e]
 by_cases h:(l.length:Int)≤t
 ·have c:¬ (t - (l.length:Int)<0):=by omega
  simp only[c,if_false]
  have h:=size_ev l wtCall wtCall_nn 1048576 (g:=fun k t i=>XT.l0 k l t i) ?_ ?_ ?_ (t - l.length) (by omega) (by omega)
  ·refine h.to ?_
   unfold lf
   by_cases h2:ctl wtCall l≤t - l.length
   ·rw[if_pos h2,if_pos (by omega)];omega
   ·rw[if_neg h2,if_neg (by omega)]
  ·intro t
   refine Ev.shift ?_
   simp only[XT.l0,Int.lt_irrefl,if_false]
   exact Ev.now _
  ·intro t i x hx hi h0 h1 hlt
   have hr:rd_T119 l (i:Int)=x:=getD_get hx
   have d1:(i:Int)<(l.length:Int):=by omega
   have d2:(0:Int)≤(i:Int):=by omega
   refine Ev.shift ?_
   simp only[XT.l0,d1,d2,if_true,hr,szCall_eq x t h0 h1 (hw x (List.mem_of_getElem? hx)),lf_neg (show ¬ wtCall x≤t by omega),Option.bind_some,show (-1:Int)<0 by decide]
   exact Ev.now _
  ·intro t i x r hx hi h0 h1 hle h
   have hr:rd_T119 l (i:Int)=x:=getD_get hx
   have d1:(i:Int)<(l.length:Int):=by omega
   have d2:(0:Int)≤(i:Int):=by omega
   have d3:¬ (t - wtCall x<0):=by omega
   refine Ev.shift ?_
   simp only[XT.l0,d1,d2,if_true,hr,szCall_eq x t h0 h1 (hw x (List.mem_of_getElem? hx)),lf_pos hle,Option.bind_some,d3,if_false,succ64 hi hl]
   exact h
 ·have c:t - (l.length:Int)<0:=by omega
  simp only[c,if_true]
  exact Ev.val (lf_neg (by omega)).symm
theorem toCallS_ev (l:List lCall) (hl:l.length≤1048576) (hw:ctl wtCall l≤1048576):Ev (fun k=>X0.f k l) (l.map cCall):=by
 have c1:(0:Int)≤(l.length:Int):=by omega
 simp only[X0.f,c1,if_true,Int.toNat_natCast]
 refine Ev.pos (by omega) ?_
 refine fill_ev l cCall z73 (g:=fun k s i=>X0.l0 k l s i) ?_ ?_
 ·intro s hs
  refine Ev.shift ?_
  simp only[X0.l0,Int.lt_irrefl,if_false]
  exact Ev.now _
 ·intro s i x r hx hs hi h
  have hr:rd_T119 l (i:Int)=x:=getD_get hx
  have hm:=ctl_mem wtCall_nn (List.mem_of_getElem? hx)
  refine Ev.shift ?_
  have d1:(i:Int)<(l.length:Int):=by omega
  have d2:(0:Int)≤(i:Int):=by omega
  have d3:(i:Int)<(s.length:Int):=by omega
  simp only[X0.l0,d1,d2,if_true,hr]
  refine Ev.bind (toCall_ev x (by omega)) ?_
  simp only[d3,if_true,Int.toNat_natCast,succ64 hi (by omega)]
  exact h
theorem eqCallS_ev (l:List iCall) (hl:l.length≤9223372036854775807) (hs:∀ x ∈ l,smCall x):Ev (fun k=>Xz.f k l l) true:=by
 simp only[Xz.f,if_true]
 refine look_ev l true (g:=fun k i=>Xz.l0 k l l i) ?_ ?_
 ·refine Ev.shift ?_
  simp only[Xz.l0,Int.lt_irrefl,if_false]
  exact Ev.now _
 ·intro i x hx hi h
  have hr:rd_T73 l (i:Int)=x:=getD_get hx
  refine Ev.shift ?_
  have d1:(i:Int)<(l.length:Int):=by omega
  have d2:(0:Int)≤(i:Int):=by omega
  simp only[Xz.l0,d1,d2,if_true,hr,succ64 hi hl]
  refine Ev.bind (eqCall_ev x (hs x (List.mem_of_getElem? hx))) ?_
  simp only[if_true]
  exact h
abbrev mW:=S140
abbrev mD:=S162
abbrev mE:=S165
def entL:List mE→Int→Int × Int × Int × Bool
 | [],_=>(0,0,0,false)
 | e :: r,a=>if e.f0=a then (e.f0,e.f1,e.f2,true) else entL r a
def okE (l:List mE):Prop:=∀ e ∈ l,i64in e.f1∧i64in e.f2
theorem rdE_at {l:List mE} {i:Nat} (h:i<l.length):rd_T165 l (i:Int)=l[i]:=getD_get (List.getElem?_eq_getElem h)
theorem Xbt (a b:Int) (l:List mE) (c:Int) (q:List Int) (v:Int) (hl:l.length≤9223372036854775807):Ev (fun k=>XQ.f k a b l c q v) (entL l v):=by
 simp only[XQ.f]
 refine(back (n:=l.length) (Q:=fun i=>Ev (fun k=>XQ.l0 k v (i:Int) a b l c q) (entL (l.drop i) v)) ?_ (fun i hi ih => ?_) 0 (Nat.zero_le _))
 ·refine Ev.shift ?_
  simp only[XQ.l0,Int.lt_irrefl,if_false,List.drop_length,entL]
  exact Ev.now _
 ·have c0:(0:Int)≤(i:Int):=by omega
  have c1:(i:Int)<(l.length:Int):=by omega
  refine Ev.shift ?_
  rw[List.drop_eq_getElem_cons hi]
  simp only[XQ.l0,c0,c1,if_true,rdE_at hi,entL,succ64 hi hl]
  by_cases h:l[i].f0=v
  ·simp only[h,if_true];exact Ev.now _
  ·simp only[h,if_false];exact ih
theorem Xbu (a b:Int) (l:List mE) (c:Int) (q:List Int) (v:Int) (hl:l.length≤9223372036854775807):Ev (fun k=>X4.f k a b l c q v) (entL l v):=by
 simp only[X4.f]
 refine(back (n:=l.length) (Q:=fun i=>Ev (fun k=>X4.l0 k v l (l.length:Int) (i:Int)) (entL (l.drop i) v)) ?_ (fun i hi ih => ?_) 0 (Nat.zero_le _))
 ·refine Ev.shift ?_
  simp only[X4.l0,Int.lt_irrefl,if_false,List.drop_length,entL]
  exact Ev.now _
 ·have c0:(0:Int)≤(i:Int):=by omega
  have c1:(i:Int)<(l.length:Int):=by omega
  refine Ev.shift ?_
  rw[List.drop_eq_getElem_cons hi]
  simp only[X4.l0,c0,c1,if_true,rdE_at hi,entL,succ64 hi hl]
  by_cases h:l[i].f0=v
  ·simp only[h,if_true];exact Ev.now _
  ·simp only[h,if_false];exact ih
def okWs (w:List mW):Prop:=∀ x ∈ w,i64in x.f0
def okDs (d:List mD):Prop:=∀ x ∈ d,x.f2.length≤1048576∧okE x.f2
end Go.Proofs.YtmljebgideecjaaGreat.P2
namespace Go.Proofs.YtmljebgideecjaaGreat.P2
open Go.Proofs.YtmljebgideecjaaGreatZ Go.RowKit Go.Proofs.YtmljebgideecjaaGreatW.PrintWords Go.Proofs.YtmljebgideecjaaGreatW.PrintLast Go.Proofs.YtmljebgideecjaaGreatW.PrintMore
attribute [local go_sem] max2_int min2_int max_two min_two max_three min_three max_four min_four   -- for this text's walks alone

def XaI.f (k:Nat) (l0_0:List (S176)) (l0_1:List (S155)) (l0_2:List (S114)) (a0_3:Int) (l0_4:List (S119)) (l0_5:List Int) (l0_6:List Int) (a0_7:Int) (a1:Int):Option (Int):=(Xa7.f k l0_0 l0_1 a1).bind fun t102=>(if t102<0 then (some (-1)) else ((XI.f k l0_2 t102).bind fun t103=>(if t103<0 then (some (-1)) else ((XT.f k l0_4 t103).bind fun t104=>(if t104<0 then (some (-1)) else ((Xar.f l0_5 t104).bind fun t105=>(if t105<0 then (some (-1)) else ((XaK.f l0_6 a0_7 t105).bind fun t106=>(if t106<0 then (some (-1)) else (some t106))))))))))
theorem XaI.calls (k:Nat) (A0_0:Option Addr) (c0_0:Nat) (l0_0:List (S176)) (A0_1:Option Addr) (c0_1:Nat) (l0_1:List (S155)) (A0_2:Option Addr) (c0_2:Nat) (l0_2:List (S114)) (a0_3:Int) (A0_4:Option Addr) (c0_4:Nat) (l0_4:List (S119)) (A0_5:Option Addr) (c0_5:Nat) (l0_5:List Int) (A0_6:Option Addr) (c0_6:Nat) (l0_6:List Int) (a0_7:Int) (a1:Int) (r:Int) (w:World) (h0_0:Rw k176 w A0_0 c0_0 l0_0) (h0_1:Rw k155 w A0_1 c0_1 l0_1) (h0_2:Rw k114 w A0_2 c0_2 l0_2) (h0_4:Rw k119 w A0_4 c0_4 l0_4) (h0_5:Rw (Kd.int .i64) w A0_5 c0_5 l0_5) (h0_6:Rw (Kd.int .i64) w A0_6 c0_6 l0_6) (H:XaI.f k l0_0 l0_1 l0_2 a0_3 l0_4 l0_5 l0_6 a0_7 a1=some r) :
  Calls Tryz.prog 10 #[.agg #[.slice A0_0 l0_0.length c0_0,.slice A0_1 l0_1.length c0_1,.slice A0_2 l0_2.length c0_2,.int .i64 a0_3,.slice A0_4 l0_4.length c0_4,.slice A0_5 l0_5.length c0_5,.slice A0_6 l0_6.length c0_6,.int .i64 a0_7],.int .i64 a1] w fun e w'=>e = .returned (.int .i64 r)∧Below w.heap.size w w':=by
 have hu32:=Tryz.underlying32
 have hu25:=Tryz.underlying25
 have hu30:=Tryz.underlying30
 obtain⟨HR0_0,HC0_0⟩:=h0_0
 obtain⟨HR0_1,HC0_1⟩:=h0_1
 obtain⟨HR0_2,HC0_2⟩:=h0_2
 obtain⟨HR0_4,HC0_4⟩:=h0_4
 obtain⟨HR0_5,HC0_5⟩:=h0_5
 obtain⟨HR0_6,HC0_6⟩:=h0_6
 have HB:=aM (Below.refl w.heap.size w)
 unfold XaI.f at H
 replace H:=bE H;obtain⟨t102,A3,H⟩:=H
 go_enter Tryz.func10,Tryz.ntmps10
 go_wp2_with (refine boxE 2 #[.slice A0_0 l0_0.length c0_0,.slice A0_1 l0_1.length c0_1,.slice A0_2 l0_2.length c0_2,.int .i64 a0_3,.slice A0_4 l0_4.length c0_4,.slice A0_5 l0_5.length c0_5,.slice A0_6 l0_6.length c0_6,.int .i64 a0_7] 32 ?_;intro gbz1 hg wz1 hbox hb;have BKz1:=aM (hbox);have GWz1:=aG hg HB;replace HB:=aS HB hb;clear hb hbox hg;have hczz1:=cZ8 BKz1.out;refine Stop.out ?_)
 refine⟨?_⟩
 revert H;refine iP ?_ ?_<;>intro c4b0 H
 ·obtain rfl:=sI H
  go_wp2_with (refine gB 38 8 Tryz.func38 (Xa7.calls _ _ _ _ _ _ _ _ _ _ (rW HR0_0 HB HC0_0) (rW HR0_1 HB HC0_1) A3.out) ?_;intro wz2 hb;replace BKz1:=aB BKz1 hb;replace HB:=aS HB hb;clear hb)
  go_ret
  exact⟨rE,(hX HB.out)⟩
 replace H:=bE H;obtain⟨t103,A8,H⟩:=H
 go_wp2_with (refine gB 38 8 Tryz.func38 (Xa7.calls _ _ _ _ _ _ _ _ _ _ (rW HR0_0 HB HC0_0) (rW HR0_1 HB HC0_1) A3.out) ?_;intro wz2 hb;replace BKz1:=aB BKz1 hb;replace HB:=aS HB hb;clear hb;have hczz9:=cZ8 BKz1.out;refine Stop.out ?_)
 refine⟨?_⟩
 revert H;refine iP ?_ ?_<;>intro c9b0 H
 ·obtain rfl:=sI H
  go_wp2_with (refine gB 39 14 Tryz.func39 (XI.calls _ _ _ _ _ _ _ (rW HR0_2 HB HC0_2) A8.out) ?_;intro wz3 hb;replace BKz1:=aB BKz1 hb;replace HB:=aS HB hb;clear hb)
  go_ret
  exact⟨rE,(hX HB.out)⟩
 replace H:=bE H;obtain⟨t104,A15,H⟩:=H
 go_wp2_with (refine gB 39 14 Tryz.func39 (XI.calls _ _ _ _ _ _ _ (rW HR0_2 HB HC0_2) A8.out) ?_;intro wz3 hb;replace BKz1:=aB BKz1 hb;replace HB:=aS HB hb;clear hb;have hczz17:=cZ8 BKz1.out;refine Stop.out ?_)
 refine⟨?_⟩
 revert H;refine iP ?_ ?_<;>intro c16b0 H
 ·obtain rfl:=sI H
  go_wp2_with (refine gB 40 20 Tryz.func40 (XT.calls _ _ _ _ _ _ _ (rW HR0_4 HB HC0_4) A15.out) ?_;intro wz4 hb;replace BKz1:=aB BKz1 hb;replace HB:=aS HB hb;clear hb)
  go_ret
  exact⟨rE,(hX HB.out)⟩
 replace H:=bE H;obtain⟨t105,A24,H⟩:=H
 go_wp2_with (first | (refine gB 40 20 Tryz.func40 (XT.calls _ _ _ _ _ _ _ (rW HR0_4 HB HC0_4) A15.out) ?_;intro wz4 hb;replace BKz1:=aB BKz1 hb;replace HB:=aS HB hb;clear hb;have hczz25:=cZ8 BKz1.out) | (refine gD 41 26 Tryz.func41 (Xar.calls _ _ _ _ _ _ (rW HR0_5 HB HC0_5) A24.out) ?_;intro nd;refine Stop.out ?_))
 refine⟨?_⟩
 revert H;refine iP ?_ ?_<;>intro c25b0 H
 ·obtain rfl:=sI H
  exact fS
 replace H:=bE H;obtain⟨t106,A34,H⟩:=H
 go_wp2_with (refine gB 17 32 Tryz.func17 (XaK.calls _ _ _ _ _ _ _ (rW HR0_6 HB HC0_6) A34.out) ?_;intro wz5 hb;replace BKz1:=aB BKz1 hb;replace HB:=aS HB hb;clear hb;refine Stop.out ?_)
 refine⟨?_⟩
 revert H;refine iP ?_ ?_<;>intro c35b0 H
 ·obtain rfl:=sI H
  exact fS
 exact fR
def XU.f (k:Nat) (l0_0:List (S176)) (l0_1:List (S155)) (l0_2:List (S114)) (a0_3:Int) (l0_4:List (S119)) (l0_5:List Int) (l0_6:List Int) (a0_7:Int):Option ((List (S140)) × (List (S162)) × (List (S97)) × Int × (List (S73)) × List Int × List Int × Int):=(Xa8.f k l0_0 l0_1).bind fun bt104=>((XJ.f k l0_2).bind fun t110=>((X0.f k l0_4).bind fun t113=>((XO.f k l0_5).bind fun t116=>((XaX.f k l0_6 a0_7).bind fun bt119=>(some (bt104.1,bt104.2,t110,a0_3,t113,t116,bt119.1,bt119.2))))))
theorem XU.calls (k:Nat) (A0_0:Option Addr) (c0_0:Nat) (l0_0:List (S176)) (A0_1:Option Addr) (c0_1:Nat) (l0_1:List (S155)) (A0_2:Option Addr) (c0_2:Nat) (l0_2:List (S114)) (a0_3:Int) (A0_4:Option Addr) (c0_4:Nat) (l0_4:List (S119)) (A0_5:Option Addr) (c0_5:Nat) (l0_5:List Int) (A0_6:Option Addr) (c0_6:Nat) (l0_6:List Int) (a0_7:Int) (r1:List (S140)) (r2:List (S162)) (r3:List (S97)) (r4:Int) (r5:List (S73)) (r6:List Int) (r7:List Int) (r8:Int) (w:World) (h0_0:Rw k176 w A0_0 c0_0 l0_0) (h0_1:Rw k155 w A0_1 c0_1 l0_1) (h0_2:Rw k114 w A0_2 c0_2 l0_2) (h0_4:Rw k119 w A0_4 c0_4 l0_4) (h0_5:Rw (Kd.int .i64) w A0_5 c0_5 l0_5) (h0_6:Rw (Kd.int .i64) w A0_6 c0_6 l0_6) (h:XU.f k l0_0 l0_1 l0_2 a0_3 l0_4 l0_5 l0_6 a0_7=some (r1,r2,r3,r4,r5,r6,r7,r8)) :
  Calls Tryz.prog 12 #[.agg #[.slice A0_0 l0_0.length c0_0,.slice A0_1 l0_1.length c0_1,.slice A0_2 l0_2.length c0_2,.int .i64 a0_3,.slice A0_4 l0_4.length c0_4,.slice A0_5 l0_5.length c0_5,.slice A0_6 l0_6.length c0_6,.int .i64 a0_7]] w fun e w'=>∃ v0_ v1_ v2_ v4_ v5_ v6_:Value,e = .returned (.agg #[v0_,v1_,v2_,.int .i64 r4,v4_,v5_,v6_,.int .i64 r8])∧Kd.R k140 140 w' w.heap.size (fun _=>True) v0_ r1∧Kd.S k162 162 w' w.heap.size (fun k_=>some k_ ≠ (v5_:Value).ownBlock∧some k_ ≠ (v6_:Value).ownBlock) v1_ r2∧Kd.S k97 97 w' w.heap.size (fun _=>True) v2_ r3∧Kd.S k73 73 w' w.heap.size (fun k_=>some k_ ≠ (v5_:Value).ownBlock∧some k_ ≠ (v6_:Value).ownBlock) v4_ r5∧Kd.R (Kd.int .i64) 3 w' w.heap.size (fun k_=>some k_ ≠ (v6_:Value).ownBlock) v5_ r6∧Kd.R (Kd.int .i64) 3 w' w.heap.size (fun k_=>some k_ ≠ (v5_:Value).ownBlock) v6_ r7∧Below w.heap.size w w':=by
 have hu32:=Tryz.underlying32
 have hu43:=Tryz.underlying43
 have hu25:=Tryz.underlying25
 have hu38:=Tryz.underlying38
 have hu30:=Tryz.underlying30
 have hu41:=Tryz.underlying41
 obtain⟨HR0_0,HC0_0⟩:=h0_0
 obtain⟨HR0_1,HC0_1⟩:=h0_1
 obtain⟨HR0_2,HC0_2⟩:=h0_2
 obtain⟨HR0_4,HC0_4⟩:=h0_4
 obtain⟨HR0_5,HC0_5⟩:=h0_5
 obtain⟨HR0_6,HC0_6⟩:=h0_6
 have HB:=aM (Below.refl w.heap.size w)
 have H:=h
 unfold XU.f at H
 clear h
 replace H:=bE H;obtain⟨⟨t104,t107⟩,A2,H⟩:=H
 try dsimp only at H
 replace H:=bE H;obtain⟨t110,A3,H⟩:=H
 replace H:=bE H;obtain⟨t113,A4,H⟩:=H
 replace H:=bE H;obtain⟨t116,A5,H⟩:=H
 replace H:=bE H;obtain⟨⟨t119,t122⟩,A6,H⟩:=H
 try dsimp only at H
 simp only[Option.some.injEq,Prod.mk.injEq] at H
 obtain⟨rfl,rfl,rfl,rfl,rfl,rfl,rfl,rfl⟩:=H
 go_enter Tryz.func12,Tryz.ntmps12
 go_wp2_with (first | (refine boxE 1 #[.slice A0_0 l0_0.length c0_0,.slice A0_1 l0_1.length c0_1,.slice A0_2 l0_2.length c0_2,.int .i64 a0_3,.slice A0_4 l0_4.length c0_4,.slice A0_5 l0_5.length c0_5,.slice A0_6 l0_6.length c0_6,.int .i64 a0_7] 32 ?_;intro gbz1 hg wz1 hbox hb;have BKz1:=aM (hbox);have GWz1:=aG hg HB;replace HB:=aS HB hb;clear hb hbox hg) | (refine boxE 2 #[.slice none 0 0,.slice none 0 0,.slice none 0 0,.int .i64 0,.slice none 0 0,.slice none 0 0,.slice none 0 0,.int .i64 0] 43 ?_;intro gbz2 hg wz2 hbox hb;have BKz2:=aM (hbox);have GWz2:=aG hg HB;have NBz1:=aL hg BKz1;have NBz2:=aR hg BKz1;replace BKz1:=aB BKz1 hb;replace HB:=aS HB hb;clear hb hbox hg) | (refine boxE 3 #[.slice none 0 0,.slice none 0 0,.slice none 0 0,.int .i64 0,.slice none 0 0,.slice none 0 0,.slice none 0 0,.int .i64 0] 43 ?_;intro gbz3 hg wz3 hbox hb;have BKz3:=aM (hbox);have GWz3:=aG hg HB;have NBz3:=aL hg BKz1;have NBz4:=aR hg BKz1;have NBz5:=aL hg BKz2;have NBz6:=aR hg BKz2;replace BKz1:=aB BKz1 hb;replace BKz2:=aB BKz2 hb;replace HB:=aS HB hb;clear hb hbox hg;have hnbz1:=nB NBz1 NBz2;have hnbz2:=nB NBz3 NBz4;have hczz1:=cZ8 BKz1.out) | (refine goesM 44 6 Tryz.func44 #[.agg #[.slice A0_0 l0_0.length c0_0,.slice A0_1 l0_1.length c0_1]] ?_;refine(Xa8.calls _ _ _ _ _ _ _ _ _ _ (rW HR0_0 HB HC0_0) (rW HR0_1 HB HC0_1) A2.out).mono ?_;rintro e wz4 ⟨vz1,vz2,rfl,hoz1,hoz2,hb⟩;refine⟨_,rfl,?_⟩;have HOz1:=aM (Kd.R_lower hoz1 (below_size (hX HB.out)));have HOz2:=aM (Kd.S_lower hoz2 (below_size (hX HB.out)));replace BKz1:=aB BKz1 hb;replace BKz2:=aB BKz2 hb;replace BKz3:=aB BKz3 hb;replace HB:=aS HB hb;clear hb hoz1 hoz2;obtain⟨Aoz1,coz1,eoz1⟩:=Kd.R_slice HOz1.out;subst eoz1;have hnbz3:=nB NBz6 NBz5;have hczz9:=cZ8 BKz3.out;obtain⟨Aoz2,coz2,eoz2⟩:=Kd.S_slice HOz2.out;subst eoz2;have hczz17:=cZ8 BKz1.out) | (refine goesM 45 10 Tryz.func45 #[.slice A0_2 l0_2.length c0_2] ?_;refine(XJ.calls k _ _ l0_2 t110 _ (rW HR0_2 HB HC0_2) A3.out).mono ?_;rintro e wz5 ⟨vz3,rfl,hoz1,hb⟩;refine⟨_,rfl,?_⟩;have HOz3:=aM (Kd.S_lower hoz1 (below_size (hX HB.out)));replace HOz1:=aM (Kd.R_below (rF HOz1.out BKz3.out) hb);replace HOz2:=aM (Kd.S_below (sF HOz2.out BKz3.out) hb);replace BKz1:=aF BKz1 hb;replace BKz2:=aF BKz2 hb;replace BKz3:=aM (blk_below (g:=gbz3) (o:=.cells #[.slice Aoz1 t104.length coz1,.slice Aoz2 t107.length coz2,.slice none 0 0,.int .i64 0,.slice none 0 0,.slice none 0 0,.slice none 0 0,.int .i64 0] 43 (0,0)) (bP BKz3.out) hb);replace HB:=aS HB hb;clear hb hoz1;obtain⟨Aoz3,coz3,eoz3⟩:=Kd.S_slice HOz3.out;subst eoz3;have hczz25:=cZ8 BKz3.out;have hczz33:=cZ8 BKz1.out) | (refine goesM 46 17 Tryz.func46 #[.slice A0_4 l0_4.length c0_4] ?_;refine(X0.calls k _ _ l0_4 t113 _ (rW HR0_4 HB HC0_4) A4.out).mono ?_;rintro e wz6 ⟨vz4,rfl,hoz1,hb⟩;refine⟨_,rfl,?_⟩;have HOz4:=aM (Kd.S_lower hoz1 (below_size (hX HB.out)));replace HOz1:=aM (Kd.R_below (rF HOz1.out BKz3.out) hb);replace HOz2:=aM (Kd.S_below (sF HOz2.out BKz3.out) hb);replace HOz3:=aM (Kd.S_below (sF HOz3.out BKz3.out) hb);replace BKz1:=aF BKz1 hb;replace BKz2:=aF BKz2 hb;replace BKz3:=aM (blk_below (g:=gbz3) (o:=.cells #[.slice Aoz1 t104.length coz1,.slice Aoz2 t107.length coz2,.slice Aoz3 t110.length coz3,.int .i64 a0_3,.slice none 0 0,.slice none 0 0,.slice none 0 0,.int .i64 0] 43 (0,0)) (bP BKz3.out) hb);replace HB:=aS HB hb;clear hb hoz1;obtain⟨Aoz4,coz4,eoz4⟩:=Kd.S_slice HOz4.out;subst eoz4;have hczz41:=cZ8 BKz3.out;have hczz49:=cZ8 BKz1.out) | (refine goesM 47 21 Tryz.func47 #[.slice A0_5 l0_5.length c0_5] ?_;refine(XO.calls k _ _ l0_5 t116 _ (rW HR0_5 HB HC0_5) A5.out).mono ?_;rintro e wz7 ⟨vz5,rfl,hoz1,hb⟩;refine⟨_,rfl,?_⟩;have HOz5:=aM (Kd.R_lower hoz1 (below_size (hX HB.out)));replace HOz1:=aM (Kd.R_below (rF HOz1.out BKz3.out) hb);replace HOz2:=aM (Kd.S_elder' (sF HOz2.out BKz3.out) (Kd.R_base hoz1) hb);replace HOz3:=aM (Kd.S_below (sF HOz3.out BKz3.out) hb);replace HOz4:=aM (Kd.S_elder' (sF HOz4.out BKz3.out) (Kd.R_base hoz1) hb);replace BKz1:=aF BKz1 hb;replace BKz2:=aF BKz2 hb;replace BKz3:=aM (blk_below (g:=gbz3) (o:=.cells #[.slice Aoz1 t104.length coz1,.slice Aoz2 t107.length coz2,.slice Aoz3 t110.length coz3,.int .i64 a0_3,.slice Aoz4 t113.length coz4,.slice none 0 0,.slice none 0 0,.int .i64 0] 43 (0,0)) (bP BKz3.out) hb);replace HB:=aS HB hb;clear hb hoz1;obtain⟨Aoz5,coz5,eoz5⟩:=Kd.R_slice HOz5.out;subst eoz5;have hczz57:=cZ8 BKz3.out;have hczz65:=cZ8 BKz1.out) | (refine goesM 20 25 Tryz.func20 #[.agg #[.slice A0_6 l0_6.length c0_6,.int .i64 a0_7]] ?_;refine(XaX.calls k _ _ l0_6 a0_7 t119 t122 _ (rW HR0_6 HB HC0_6) A6.out).mono ?_;rintro e wz8 ⟨vz6,rfl,hoz1,hb⟩;refine⟨_,rfl,?_⟩;have HOz6:=aM (Kd.R_lower (Kd.R_new' hoz1 (Kd.R_lt (rF HOz5.out BKz3.out))) (below_size (hX HB.out)));replace HOz1:=aM (Kd.R_below (rF HOz1.out BKz3.out) hb);replace HOz2:=aM (Kd.S_elder' (sF HOz2.out BKz3.out) (Kd.R_base hoz1) hb);replace HOz3:=aM (Kd.S_below (sF HOz3.out BKz3.out) hb);replace HOz4:=aM (Kd.S_elder' (sF HOz4.out BKz3.out) (Kd.R_base hoz1) hb);replace HOz5:=aM (Kd.R_elder' (rF HOz5.out BKz3.out) (Kd.R_base hoz1) hb);replace BKz1:=aF BKz1 hb;replace BKz2:=aF BKz2 hb;replace BKz3:=aM (blk_below (g:=gbz3) (o:=.cells #[.slice Aoz1 t104.length coz1,.slice Aoz2 t107.length coz2,.slice Aoz3 t110.length coz3,.int .i64 a0_3,.slice Aoz4 t113.length coz4,.slice Aoz5 t116.length coz5,.slice none 0 0,.int .i64 0] 43 (0,0)) (bP BKz3.out) hb);replace HB:=aS HB hb;clear hb hoz1;obtain⟨Aoz6,coz6,eoz6⟩:=Kd.R_slice HOz6.out;subst eoz6;have hczz73:=cZ8 BKz3.out;have hczz81:=cZ8 BKz2.out))
 refine bodyPost_ret (results_cell_row rfl _ _ gbz2 43 #[.slice Aoz1 t104.length coz1,.slice Aoz2 t107.length coz2,.slice Aoz3 t110.length coz3,.int .i64 a0_3,.slice Aoz4 t113.length coz4,.slice Aoz5 t116.length coz5,.slice Aoz6 t119.length coz6,.int .i64 t122] (0,0) _ rfl (bP BKz2.out) Tryz.underlying43 rfl (by kernel_rfl)) rfl ?_
 exact⟨_,_,_,_,_,_,rE,(Kd.R_mono (rF2 HOz1.out BKz3.out BKz2.out) (fun _ hk=>trivial)),by (with_reducible repeat (first | apply Kd.S_alloc | apply Kd.S_drewN | apply Kd.S_drew));exact Kd.S_mono (sF2 HOz2.out BKz3.out BKz2.out) (fun _ hk=>⟨hk.1.2,hk.2⟩),by (with_reducible repeat (first | apply Kd.S_alloc | apply Kd.S_drewN | apply Kd.S_drew));exact Kd.S_mono (sF2 HOz3.out BKz3.out BKz2.out) (fun _ hk=>trivial),by (with_reducible repeat (first | apply Kd.S_alloc | apply Kd.S_drewN | apply Kd.S_drew));exact Kd.S_mono (sF2 HOz4.out BKz3.out BKz2.out) (fun _ hk=>⟨hk.1.2,hk.2⟩),(Kd.R_mono (rF2 HOz5.out BKz3.out BKz2.out) (fun _ hk=>hk.2)),(Kd.R_mono (rF2 HOz6.out BKz3.out BKz2.out) (fun _ hk=>hk.2)),(hX HB.out)⟩
def XaJ.f (k:Nat) (l0_0:List (S140)) (l0_1:List (S162)) (l0_2:List (S97)) (a0_3:Int) (l0_4:List (S73)) (l0_5:List Int) (l0_6:List Int) (a0_7:Int) (l1_0:List (S140)) (l1_1:List (S162)) (l1_2:List (S97)) (a1_3:Int) (l1_4:List (S73)) (l1_5:List Int) (l1_6:List Int) (a1_7:Int):Option (Bool):=(Xa9.f k l0_0 l0_1 l1_0 l1_1).bind fun t103=>(if t103=true then ((Xr.f k l0_2 l1_2).bind fun t104=>(if t104=true then (if a0_3=a1_3 then ((Xz.f k l0_4 l1_4).bind fun t105=>(if t105=true then ((XP.f k l0_5 l1_5).bind fun t106=>(if t106=true then ((Xaf.f k l0_6 a0_7 l1_6 a1_7).bind fun t107=>(if t107=true then (some true) else (some false))) else (some false))) else (some false))) else (some false)) else (some false))) else (some false))
theorem XaJ.calls (k:Nat) (A0_0:Option Addr) (c0_0:Nat) (l0_0:List (S140)) (A0_1:Option Addr) (c0_1:Nat) (l0_1:List (S162)) (A0_2:Option Addr) (c0_2:Nat) (l0_2:List (S97)) (a0_3:Int) (A0_4:Option Addr) (c0_4:Nat) (l0_4:List (S73)) (A0_5:Option Addr) (c0_5:Nat) (l0_5:List Int) (A0_6:Option Addr) (c0_6:Nat) (l0_6:List Int) (a0_7:Int) (A1_0:Option Addr) (c1_0:Nat) (l1_0:List (S140)) (A1_1:Option Addr) (c1_1:Nat) (l1_1:List (S162)) (A1_2:Option Addr) (c1_2:Nat) (l1_2:List (S97)) (a1_3:Int) (A1_4:Option Addr) (c1_4:Nat) (l1_4:List (S73)) (A1_5:Option Addr) (c1_5:Nat) (l1_5:List Int) (A1_6:Option Addr) (c1_6:Nat) (l1_6:List Int) (a1_7:Int) (r:Bool) (w:World) (h0_0:Rw k140 w A0_0 c0_0 l0_0) (h0_1:Rw k162 w A0_1 c0_1 l0_1) (h0_2:Rw k97 w A0_2 c0_2 l0_2) (h0_4:Rw k73 w A0_4 c0_4 l0_4) (h0_5:Rw (Kd.int .i64) w A0_5 c0_5 l0_5) (h0_6:Rw (Kd.int .i64) w A0_6 c0_6 l0_6) (h1_0:Rw k140 w A1_0 c1_0 l1_0) (h1_1:Rw k162 w A1_1 c1_1 l1_1) (h1_2:Rw k97 w A1_2 c1_2 l1_2) (h1_4:Rw k73 w A1_4 c1_4 l1_4) (h1_5:Rw (Kd.int .i64) w A1_5 c1_5 l1_5) (h1_6:Rw (Kd.int .i64) w A1_6 c1_6 l1_6) (H:XaJ.f k l0_0 l0_1 l0_2 a0_3 l0_4 l0_5 l0_6 a0_7 l1_0 l1_1 l1_2 a1_3 l1_4 l1_5 l1_6 a1_7=some r) :
  Calls Tryz.prog 14 #[.agg #[.slice A0_0 l0_0.length c0_0,.slice A0_1 l0_1.length c0_1,.slice A0_2 l0_2.length c0_2,.int .i64 a0_3,.slice A0_4 l0_4.length c0_4,.slice A0_5 l0_5.length c0_5,.slice A0_6 l0_6.length c0_6,.int .i64 a0_7],.agg #[.slice A1_0 l1_0.length c1_0,.slice A1_1 l1_1.length c1_1,.slice A1_2 l1_2.length c1_2,.int .i64 a1_3,.slice A1_4 l1_4.length c1_4,.slice A1_5 l1_5.length c1_5,.slice A1_6 l1_6.length c1_6,.int .i64 a1_7]] w fun e w'=>e = .returned (.bool r)∧Below w.heap.size w w':=by
 have hu43:=Tryz.underlying43
 have hu38:=Tryz.underlying38
 have hu41:=Tryz.underlying41
 obtain⟨HR0_0,HC0_0⟩:=h0_0
 obtain⟨HR0_1,HC0_1⟩:=h0_1
 obtain⟨HR0_2,HC0_2⟩:=h0_2
 obtain⟨HR0_4,HC0_4⟩:=h0_4
 obtain⟨HR0_5,HC0_5⟩:=h0_5
 obtain⟨HR0_6,HC0_6⟩:=h0_6
 obtain⟨HR1_0,HC1_0⟩:=h1_0
 obtain⟨HR1_1,HC1_1⟩:=h1_1
 obtain⟨HR1_2,HC1_2⟩:=h1_2
 obtain⟨HR1_4,HC1_4⟩:=h1_4
 obtain⟨HR1_5,HC1_5⟩:=h1_5
 obtain⟨HR1_6,HC1_6⟩:=h1_6
 have HB:=aM (Below.refl w.heap.size w)
 unfold XaJ.f at H
 replace H:=bE H;obtain⟨t103,A3,H⟩:=H
 go_enter Tryz.func14,Tryz.ntmps14
 go_wp2_with (first | (refine boxE 2 #[.slice A0_0 l0_0.length c0_0,.slice A0_1 l0_1.length c0_1,.slice A0_2 l0_2.length c0_2,.int .i64 a0_3,.slice A0_4 l0_4.length c0_4,.slice A0_5 l0_5.length c0_5,.slice A0_6 l0_6.length c0_6,.int .i64 a0_7] 43 ?_;intro gbz1 hg wz1 hbox hb;have BKz1:=aM (hbox);have GWz1:=aG hg HB;replace HB:=aS HB hb;clear hb hbox hg) | (refine boxE 3 #[.slice A1_0 l1_0.length c1_0,.slice A1_1 l1_1.length c1_1,.slice A1_2 l1_2.length c1_2,.int .i64 a1_3,.slice A1_4 l1_4.length c1_4,.slice A1_5 l1_5.length c1_5,.slice A1_6 l1_6.length c1_6,.int .i64 a1_7] 43 ?_;intro gbz2 hg wz2 hbox hb;have BKz2:=aM (hbox);have GWz2:=aG hg HB;have NBz1:=aL hg BKz1;have NBz2:=aR hg BKz1;replace BKz1:=aB BKz1 hb;replace HB:=aS HB hb;clear hb hbox hg;have hnbz1:=nB NBz1 NBz2;have hczz1:=cZ8 BKz1.out;have hczz9:=cZ8 BKz2.out;refine Stop.out ?_))
 refine⟨?_⟩
 cases t103
 case false =>
  rw[if_neg nft] at H
  obtain rfl:=sI H
  go_wp2_with (refine gB 50 9 Tryz.func50 (Xa9.calls _ _ _ _ _ _ _ _ _ _ _ _ _ _ _ (rW HR0_0 HB HC0_0) (rW HR0_1 HB HC0_1) (rW HR1_0 HB HC1_0) (rW HR1_1 HB HC1_1) A3.out) ?_;intro wz3 hb;replace BKz1:=aB BKz1 hb;replace BKz2:=aB BKz2 hb;replace HB:=aS HB hb;clear hb)
  go_ret
  exact⟨rE,(hX HB.out)⟩
 rw[if_pos rfl] at H
 replace H:=bE H;obtain⟨t104,A5,H⟩:=H
 go_wp2_with (refine gB 50 9 Tryz.func50 (Xa9.calls _ _ _ _ _ _ _ _ _ _ _ _ _ _ _ (rW HR0_0 HB HC0_0) (rW HR0_1 HB HC0_1) (rW HR1_0 HB HC1_0) (rW HR1_1 HB HC1_1) A3.out) ?_;intro wz3 hb;replace BKz1:=aB BKz1 hb;replace BKz2:=aB BKz2 hb;replace HB:=aS HB hb;clear hb;have hczz17:=cZ8 BKz1.out;have hczz25:=cZ8 BKz2.out;refine Stop.out ?_)
 refine⟨?_⟩
 cases t104
 case false =>
  rw[if_neg nft] at H
  obtain rfl:=sI H
  go_wp2_with (refine gB 51 15 Tryz.func51 (Xr.calls _ _ _ _ _ _ _ _ _ (rW HR0_2 HB HC0_2) (rW HR1_2 HB HC1_2) A5.out) ?_;intro wz4 hb;replace BKz1:=aB BKz1 hb;replace BKz2:=aB BKz2 hb;replace HB:=aS HB hb;clear hb)
  go_ret
  exact⟨rE,(hX HB.out)⟩
 rw[if_pos rfl] at H
 go_wp2_with (refine gB 51 15 Tryz.func51 (Xr.calls _ _ _ _ _ _ _ _ _ (rW HR0_2 HB HC0_2) (rW HR1_2 HB HC1_2) A5.out) ?_;intro wz4 hb;replace BKz1:=aB BKz1 hb;replace BKz2:=aB BKz2 hb;replace HB:=aS HB hb;clear hb;have hczz33:=cZ8 BKz1.out;have hczz41:=cZ8 BKz2.out;refine Stop.out ?_)
 refine⟨?_⟩
 revert H;refine eN ?_ ?_<;>intro c7b0 c7b1 H
 ·obtain rfl:=sI H
  exact fS
 replace H:=bE H;obtain⟨t105,A8,H⟩:=H
 cases t105
 case false =>
  rw[if_neg nft] at H
  obtain rfl:=sI H
  go_wp2_with (refine gB 52 26 Tryz.func52 (Xz.calls _ _ _ _ _ _ _ _ _ (rW HR0_4 HB HC0_4) (rW HR1_4 HB HC1_4) A8.out) ?_;intro wz5 hb;replace BKz1:=aB BKz1 hb;replace BKz2:=aB BKz2 hb;replace HB:=aS HB hb;clear hb)
  go_ret
  exact⟨rE,(hX HB.out)⟩
 rw[if_pos rfl] at H
 replace H:=bE H;obtain⟨t106,A10,H⟩:=H
 go_wp2_with (refine gB 52 26 Tryz.func52 (Xz.calls _ _ _ _ _ _ _ _ _ (rW HR0_4 HB HC0_4) (rW HR1_4 HB HC1_4) A8.out) ?_;intro wz5 hb;replace BKz1:=aB BKz1 hb;replace BKz2:=aB BKz2 hb;replace HB:=aS HB hb;clear hb;have hczz49:=cZ8 BKz1.out;have hczz57:=cZ8 BKz2.out;refine Stop.out ?_)
 refine⟨?_⟩
 cases t106
 case false =>
  rw[if_neg nft] at H
  obtain rfl:=sI H
  go_wp2_with (refine gD 53 32 Tryz.func53 (XP.calls _ _ _ _ _ _ _ _ _ (rW HR0_5 HB HC0_5) (rW HR1_5 HB HC1_5) A10.out) ?_;intro nd)
  go_ret
  exact⟨rE,(hX HB.out)⟩
 rw[if_pos rfl] at H
 replace H:=bE H;obtain⟨t107,A12,H⟩:=H
 go_wp2_with (refine gD 53 32 Tryz.func53 (XP.calls _ _ _ _ _ _ _ _ _ (rW HR0_5 HB HC0_5) (rW HR1_5 HB HC1_5) A10.out) ?_;intro nd;refine Stop.out ?_)
 refine⟨?_⟩
 cases t107
 case true =>
  rw[if_pos rfl] at H
  obtain rfl:=sI H
  go_wp2_with (refine gB 23 38 Tryz.func23 (Xaf.calls _ _ _ _ _ _ _ _ _ _ _ (rW HR0_6 HB HC0_6) (rW HR1_6 HB HC1_6) A12.out) ?_;intro wz6 hb;replace BKz1:=aB BKz1 hb;replace BKz2:=aB BKz2 hb;replace HB:=aS HB hb;clear hb)
  go_ret
  exact⟨rE,(hX HB.out)⟩
 rw[if_neg nft] at H
 obtain rfl:=sI H
 go_wp2_with (refine gB 23 38 Tryz.func23 (Xaf.calls _ _ _ _ _ _ _ _ _ _ _ (rW HR0_6 HB HC0_6) (rW HR1_6 HB HC1_6) A12.out) ?_;intro wz6 hb;replace BKz1:=aB BKz1 hb;replace BKz2:=aB BKz2 hb;replace HB:=aS HB hb;clear hb)
 go_ret
 exact⟨rE,(hX HB.out)⟩
mutual
def Xh.j0:Nat→Bool→List (S140)→List (S162)→List (S97)→Int→List (S73)→List Int→List Int→Int→Option (Bool)
 | 0,_,_,_,_,_,_,_,_,_=>none
 | k+1,x34,x102000,x102001,x102002,x102003,x102004,x102005,x102006,x102007=>if x34=true then (some false) else (Xh.l0 k 0 x102000 x102001 x102002 x102003 x102004 x102005 x102006 x102007)
def Xh.l0:Nat→Int→List (S140)→List (S162)→List (S97)→Int→List (S73)→List Int→List Int→Int→Option (Bool)
 | 0,_,_,_,_,_,_,_,_,_=>none
 | k+1,x3,x102000,x102001,x102002,x102003,x102004,x102005,x102006,x102007=>if x3<(x102002.length:Int) then (if 0≤x3 then ((Xc.f k ((rd_T97 x102002 x3).f0) ((rd_T97 x102002 x3).f1) ((rd_T97 x102002 x3).f2) ((rd_T97 x102002 x3).f3) ((rd_T97 x102002 x3).f4) (x102002.length:Int)).bind fun t107=>(if t107=true then ((XK.f k x102000 x102001 x102002 x102003 x102004 x102005 x102006 x102007 x3).bind fun t108=>(if t108=true then (Xh.l0 k (wrap64 (x3+1)) x102000 x102001 x102002 x102003 x102004 x102005 x102006 x102007) else (some false))) else (some false))) else (none)) else (some true)
end
def Xh.f (k:Nat) (l0_0:List (S140)) (l0_1:List (S162)) (l0_2:List (S97)) (a0_3:Int) (l0_4:List (S73)) (l0_5:List Int) (l0_6:List Int) (a0_7:Int):Option (Bool):=(Xp.f k l0_0 l0_1).bind fun t102=>(if t102=true then (if (l0_1.length:Int)=(l0_2.length:Int) then ((Xb.f a0_3 0 100000).bind fun t103=>(if t103=true then ((Xq.f k l0_6 a0_7).bind fun t104=>(if t104=true then ((Xa.f k l0_0 l0_1 l0_2 a0_3 l0_4 l0_5 l0_6 a0_7).bind fun t105=>(Xh.j0 k (!t105) l0_0 l0_1 l0_2 a0_3 l0_4 l0_5 l0_6 a0_7)) else (Xh.j0 k true l0_0 l0_1 l0_2 a0_3 l0_4 l0_5 l0_6 a0_7))) else (Xh.j0 k true l0_0 l0_1 l0_2 a0_3 l0_4 l0_5 l0_6 a0_7))) else (Xh.j0 k true l0_0 l0_1 l0_2 a0_3 l0_4 l0_5 l0_6 a0_7)) else (Xh.j0 k true l0_0 l0_1 l0_2 a0_3 l0_4 l0_5 l0_6 a0_7))
def Xh.T6:Bool × List (List Nat × List Nat):=(true,[([],[]),([0],[0]),([],[]),([1,2],[1,2]),([3],[3]),([],[]),([5],[5]),([6],[6]),([4,7],[4,7]),([8],[8]),([9,8],[9]),([10],[10]),([10],[10]),([11,12,10,10],[10,11,12]),([13,10],[10,13]),([10,14],[10,14])])
def Xh.B6:List Nat:=[0,1,0,7,15,0,32,96,255,511,1023,2047,2047,8191,16383,32767]
theorem Xh.tab6:rtab .any (opsOf Tryz.f42 6)=Xh.T6:=by kernel_rfl
theorem Xh.bits6:waitsOk Xh.T6.2 Xh.B6=true:=by kernel_rfl
theorem Xh.calls (k:Nat) (A0_0:Option Addr) (c0_0:Nat) (l0_0:List (S140)) (A0_1:Option Addr) (c0_1:Nat) (l0_1:List (S162)) (A0_2:Option Addr) (c0_2:Nat) (l0_2:List (S97)) (a0_3:Int) (A0_4:Option Addr) (c0_4:Nat) (l0_4:List (S73)) (A0_5:Option Addr) (c0_5:Nat) (l0_5:List Int) (A0_6:Option Addr) (c0_6:Nat) (l0_6:List Int) (a0_7:Int) (r:Bool) (w:World) (h0_0:Rw k140 w A0_0 c0_0 l0_0) (h0_1:Rw k162 w A0_1 c0_1 l0_1) (h0_2:Rw k97 w A0_2 c0_2 l0_2) (h0_4:Rw k73 w A0_4 c0_4 l0_4) (h0_5:Rw (Kd.int .i64) w A0_5 c0_5 l0_5) (h0_6:Rw (Kd.int .i64) w A0_6 c0_6 l0_6) (H:Xh.f k l0_0 l0_1 l0_2 a0_3 l0_4 l0_5 l0_6 a0_7=some r) :
  Calls Tryz.prog 42 #[.agg #[.slice A0_0 l0_0.length c0_0,.slice A0_1 l0_1.length c0_1,.slice A0_2 l0_2.length c0_2,.int .i64 a0_3,.slice A0_4 l0_4.length c0_4,.slice A0_5 l0_5.length c0_5,.slice A0_6 l0_6.length c0_6,.int .i64 a0_7]] w fun e w'=>e = .returned (.bool r)∧Below w.heap.size w w':=by
 have hu43:=Tryz.underlying43
 have hu38:=Tryz.underlying38
 have hu41:=Tryz.underlying41
 have hu97:=Tryz.underlying97
 obtain⟨HR0_0,HC0_0⟩:=h0_0
 obtain⟨HR0_1,HC0_1⟩:=h0_1
 obtain⟨HR0_2,HC0_2⟩:=h0_2
 obtain⟨HR0_4,HC0_4⟩:=h0_4
 obtain⟨HR0_5,HC0_5⟩:=h0_5
 obtain⟨HR0_6,HC0_6⟩:=h0_6
 have HB:=aM (Below.refl w.heap.size w)
 unfold Xh.f at H
 have HC2:=aM H
 clear H
 go_enter Tryz.func42,Tryz.ntmps42
 go_upto_region 1 with((with_reducible refine gate_dst (N:=1) rfl ?_);(try (refine gate_guard (by rfl) ?_;dsimp only));refine boxF 1 #[.slice A0_0 l0_0.length c0_0,.slice A0_1 l0_1.length c0_1,.slice A0_2 l0_2.length c0_2,.int .i64 a0_3,.slice A0_4 l0_4.length c0_4,.slice A0_5 l0_5.length c0_5,.slice A0_6 l0_6.length c0_6,.int .i64 a0_7] 43 ?_;intro gbz1 hg wz1 hbox hb;have BKz1:=aM (hbox);have GWz1:=aG hg HB;replace HB:=aS HB hb;clear hb hbox hg)
 (try simp only[Act.put,List.setIfInBounds_toArray,List.set_cons_zero,List.set_cons_succ])
 go_cut [34] (fun vz1 wc=>∃ (kq:Nat) (x34_1:Bool),vz1 = .bool x34_1∧Aside0 (Xh.j0 kq x34_1 l0_0 l0_1 l0_2 a0_3 l0_4 l0_5 l0_6 a0_7=some r)∧Aside0 (kq≤k)∧Aside0 (wc.heap[gbz1]? = some (.cells #[(.slice A0_0 l0_0.length c0_0),(.slice A0_1 l0_1.length c0_1),(.slice A0_2 l0_2.length c0_2),.int .i64 a0_3,(.slice A0_4 l0_4.length c0_4),(.slice A0_5 l0_5.length c0_5),(.slice A0_6 l0_6.length c0_6),.int .i64 a0_7] 43 (0,0)))∧Aside0 (Below w.heap.size w wc))
 case first =>
  have H:=HC2.out
  clear HC2
  replace H:=bE H;obtain⟨t102,A4,H⟩:=H
  cases t102
  case false =>
   rw[if_neg nft] at H
   have H':=aM H
   clear H
   have hczy1:=cZ8 BKz1.out
   go_wp2_with (refine gB 92 6 Tryz.func92 (Xp.calls _ _ _ _ _ _ _ _ _ (rW HR0_0 HB HC0_0) (rW HR0_1 HB HC0_1) A4.out) ?_;intro wy1 hb;replace BKz1:=aB BKz1 hb;replace HB:=aS HB hb;clear hb)
   go_meet
   case rel=>exact⟨_,(true),rS,H',⟨by first | omega | exact Nat.le_refl _⟩,⟨(bX BKz1.out)⟩,⟨(hX HB.out)⟩⟩
  rw[if_pos rfl] at H
  have hczy1:=cZ8 BKz1.out
  go_wp2_with (refine gB 92 6 Tryz.func92 (Xp.calls _ _ _ _ _ _ _ _ _ (rW HR0_0 HB HC0_0) (rW HR0_1 HB HC0_1) A4.out) ?_;intro wy1 hb;replace BKz1:=aB BKz1 hb;replace HB:=aS HB hb;clear hb;have hczy9:=cZ8 BKz1.out;refine Stop.out ?_)
  refine⟨?_⟩
  by_cases c6:(l0_1.length:Int)=(l0_2.length:Int)
  case neg =>
   rw[if_neg c6] at H
   obtain⟨c6b0,c6b1⟩:=eqF c6
   have c6b2:(l0_1.length == l0_2.length)=false:=by first | simpa using c6 | (simp at c6 ⊢;omega)
   (first | rw[c6b0] | (simp only[i64_w,i32_w];rw[c6b0]) | skip)
   have H':=aM H
   clear H
   go_wp2
   go_meet
   case rel=>exact⟨_,(true),rS,H',⟨by first | omega | exact Nat.le_refl _⟩,⟨(bX BKz1.out)⟩,⟨(hX HB.out)⟩⟩
  rw[if_pos c6] at H
  obtain⟨c6b0,c6b1⟩:=eqT c6
  have c6b2:(l0_1.length == l0_2.length)=true:=by first | simpa using c6 | (simp at c6 ⊢;omega)
  clear c6
  (first | rw[c6b0] | (simp only[i64_w,i32_w];rw[c6b0]) | skip)
  replace H:=bE H;obtain⟨t103,A7,H⟩:=H
  cases t103
  case false =>
   rw[if_neg nft] at H
   have H':=aM H
   clear H
   go_wp2_with (go_at_call 43;(with_reducible refine(Xb.calls _ _ _ _ _ A7.out).mono ?_);rintro e w' ⟨rfl,⟨nd,rfl⟩⟩)
   go_meet
   case rel=>exact⟨_,(true),rS,H',⟨by first | omega | exact Nat.le_refl _⟩,⟨(bX BKz1.out)⟩,⟨(hX HB.out)⟩⟩
  rw[if_pos rfl] at H
  replace H:=bE H;obtain⟨t104,A9,H⟩:=H
  go_wp2_with (go_at_call 43;(with_reducible refine(Xb.calls _ _ _ _ _ A7.out).mono ?_);rintro e w' ⟨rfl,⟨nd,rfl⟩⟩;refine Stop.out ?_)
  refine⟨?_⟩
  cases t104
  case false =>
   rw[if_neg nft] at H
   have H':=aM H
   clear H
   go_wp2_with (go_at_call 93;(with_reducible refine(Xq.calls _ _ _ _ _ _ _ (rW HR0_6 HB HC0_6) A9.out).mono ?_);rintro e wy2 ⟨rfl,hb⟩;replace BKz1:=aB BKz1 hb;replace HB:=aS HB hb;clear hb)
   go_meet
   case rel=>exact⟨_,(true),rS,H',⟨by first | omega | exact Nat.le_refl _⟩,⟨(bX BKz1.out)⟩,⟨(hX HB.out)⟩⟩
  rw[if_pos rfl] at H
  replace H:=bE H;obtain⟨t105,A11,H⟩:=H
  have H':=aM H
  clear H
  go_wp2_with (first | (go_at_call 93;(with_reducible refine(Xq.calls _ _ _ _ _ _ _ (rW HR0_6 HB HC0_6) A9.out).mono ?_);rintro e wy2 ⟨rfl,hb⟩;replace BKz1:=aB BKz1 hb;replace HB:=aS HB hb;clear hb;have hczy17:=cZ8 BKz1.out) | (go_at_call 94;(with_reducible refine(Xa.calls _ _ _ _ _ _ _ _ _ _ _ _ _ _ _ _ _ _ _ _ _ _ _ (rW HR0_0 HB HC0_0) (rW HR0_1 HB HC0_1) (rW HR0_2 HB HC0_2) (rW HR0_4 HB HC0_4) (rW HR0_5 HB HC0_5) (rW HR0_6 HB HC0_6) A11.out).mono ?_);rintro e wy3 ⟨rfl,hb⟩;replace BKz1:=aB BKz1 hb;replace HB:=aS HB hb;clear hb))
  go_meet
  case rel=>exact⟨_,(!t105),rS,H',⟨by first | omega | exact Nat.le_refl _⟩,⟨(bX BKz1.out)⟩,⟨(hX HB.out)⟩⟩
 case rest =>
  clear HC2
  obtain⟨kq,x34_1,rfl,HA,HJy1,BKz1,HB⟩:=hcut
  cases kq with
  | zero=>exact absurd HA.out (by simp[Xh.j0])
  | succ kj1 =>
   have H:=HA.out
   clear HA
   simp only[Xh.j0] at H
   cases x34_1
   case true =>
    rw[if_pos rfl] at H
    exact fR
   rw[if_neg nft] at H
   have H':=aM H
   clear H
   go_wp2
   go_loopg [3] kj1 (fun kq v3 w'=>∃ (x3_2:Int),v3 = .int .i64 x3_2∧Aside0 (Xh.l0 kq x3_2 l0_0 l0_1 l0_2 a0_3 l0_4 l0_5 l0_6 a0_7=some r)∧Aside0 (kq≤kj1)∧Aside0 (w'.heap[gbz1]? = some (.cells #[(.slice A0_0 l0_0.length c0_0),(.slice A0_1 l0_1.length c0_1),(.slice A0_2 l0_2.length c0_2),.int .i64 a0_3,(.slice A0_4 l0_4.length c0_4),(.slice A0_5 l0_5.length c0_5),(.slice A0_6 l0_6.length c0_6),.int .i64 a0_7] 43 (0,0)))∧Aside0 (Below w.heap.size w w'))
   case atStart=>exact⟨(0),rS,H',⟨Nat.le_refl _⟩,⟨(bX BKz1.out)⟩,⟨(hX HB.out)⟩⟩
   case round =>
    clear H'
    obtain⟨x3_2,rfl,HA,HKw1,BKz1,HB⟩:=hrel
    cases gk with
    | zero=>exact absurd HA.out (by simp[Xh.l0])
    | succ k2 =>
     have H:=HA.out
     clear HA
     simp only[Xh.l0] at H
     revert H;refine iN ?_ ?_<;>intro c31b0 H
     ·obtain rfl:=sI H
      have hczv1:=cZ8 BKz1.out
      exact fS
     replace H:=ifQ H;obtain⟨c32b0,H⟩:=H
     replace H:=bE H;obtain⟨t107,A33,H⟩:=H
     have hczv1:=cZ8 BKz1.out
     try go_wp2
     obtain⟨adv1,Av1,cv1,Av2,cv2,Av3,cv3,ev1,pv1,qv1,hxv1,HCv1,HRv1,HCv2,HRv2,HCv3,HRv3⟩:=at_T97c HR0_2 HB x3_2
     cases ev1
     have hcb0_:=cV8 BKz1.out
     refine sR0 16 Xh.tab6 Xh.bits6 (fun HT_ HW_ hHeld => ?_)
     refine zA 0 ?_
     refine zA 2 ?_
     refine zA 5 ?_
     refine tA 1 ?_
     refine zA 3 ?_
     refine tA 4 ?_
     refine tA 6 ?_
     refine zA 7 ?_
     cases t107
     case false =>
      rw[if_neg nft] at H
      obtain rfl:=sI H
      refine eB 8 Tryz.func95 (Xc.calls k2 _ _ ((rd_T97 l0_2 x3_2).f0) ((rd_T97 l0_2 x3_2).f1) ((rd_T97 l0_2 x3_2).f2) _ _ ((rd_T97 l0_2 x3_2).f3) _ _ ((rd_T97 l0_2 x3_2).f4) (l0_2.length:Int) false _ (rW HRv1 HB HCv1) (rW HRv2 HB HCv2) (rW HRv3 HB HCv3) A33.out) (fun wv2 hb hHeld => ?_)
      replace BKz1:=aB BKz1 hb
      replace HB:=aS HB hb
      (try clear hb)
      refine zA 9 ?_
      refine zA 10 ?_
      refine uA 11 ?_
      refine uA 12 ?_
      refine uA 13 ?_
      refine uA 14 ?_
      refine zA 15 ?_
      refine dA ?_
      try go_wp2
      go_ret
      exact⟨rE,(hX HB.out)⟩
     rw[if_pos rfl] at H
     replace H:=bE H;obtain⟨t108,A35,H⟩:=H
     refine eB 8 Tryz.func95 (Xc.calls k2 _ _ ((rd_T97 l0_2 x3_2).f0) ((rd_T97 l0_2 x3_2).f1) ((rd_T97 l0_2 x3_2).f2) _ _ ((rd_T97 l0_2 x3_2).f3) _ _ ((rd_T97 l0_2 x3_2).f4) (l0_2.length:Int) true _ (rW HRv1 HB HCv1) (rW HRv2 HB HCv2) (rW HRv3 HB HCv3) A33.out) (fun wv2 hb hHeld => ?_)
     replace BKz1:=aB BKz1 hb
     replace HB:=aS HB hb
     (try clear hb)
     refine zA 9 ?_
     refine zA 10 ?_
     refine zA 12 ?_
     refine tA 11 ?_
     cases t108
     case false =>
      rw[if_neg nft] at H
      obtain rfl:=sI H
      refine eB 13 Tryz.func96 (XK.calls k2 _ _ l0_0 _ _ l0_1 _ _ l0_2 a0_3 _ _ l0_4 _ _ l0_5 _ _ l0_6 a0_7 x3_2 false _ (rW HR0_0 HB HC0_0) (rW HR0_1 HB HC0_1) (rW HR0_2 HB HC0_2) (rW HR0_4 HB HC0_4) (rW HR0_5 HB HC0_5) (rW HR0_6 HB HC0_6) A35.out) (fun wv3 hb hHeld => ?_)
      replace BKz1:=aB BKz1 hb
      replace HB:=aS HB hb
      (try clear hb)
      refine zA 14 ?_
      refine zA 15 ?_
      refine dA ?_
      try go_wp2
      go_ret
      exact⟨rE,(hX HB.out)⟩
     rw[if_pos rfl] at H
     have H':=aM H
     clear H
     refine eB 13 Tryz.func96 (XK.calls k2 _ _ l0_0 _ _ l0_1 _ _ l0_2 a0_3 _ _ l0_4 _ _ l0_5 _ _ l0_6 a0_7 x3_2 true _ (rW HR0_0 HB HC0_0) (rW HR0_1 HB HC0_1) (rW HR0_2 HB HC0_2) (rW HR0_4 HB HC0_4) (rW HR0_5 HB HC0_5) (rW HR0_6 HB HC0_6) A35.out) (fun wv3 hb hHeld => ?_)
     replace BKz1:=aB BKz1 hb
     replace HB:=aS HB hb
     (try clear hb)
     refine zA 14 ?_
     refine zA 15 ?_
     refine dA ?_
     try go_wp2
     go_roundg k2
     case measure=>have:=HJy1.out;have:=HKw1.out;omega
     case rel=>exact⟨(wrap64 (x3_2+1)),rS,H',⟨by have:=HJy1.out;have:=HKw1.out;omega⟩,⟨(bX BKz1.out)⟩,⟨(hX HB.out)⟩⟩
end Go.Proofs.YtmljebgideecjaaGreat.P2
