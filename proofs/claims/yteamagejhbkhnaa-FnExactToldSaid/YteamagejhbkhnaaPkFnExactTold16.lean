/- A part of the proof of the law FnExactTold: texts of this seat, merged (words, printed functions of the program, plain lemmas). Conditions: none of its own. -/
import Derived.Test.YteamagejhbkhnaaPkFnExactTold12
import Derived.Test.YteamagejhbkhnaaPkFnExactTold14
set_option linter.unusedSimpArgs false
set_option linter.unusedVariables false
set_option maxHeartbeats 8000000
set_option maxRecDepth 100000
namespace Go.Proofs.Yteamagejhbkhnaa.P
open Go.Proofs.YteamagejhbkhnaaZ Go.RowKit Go.Proofs.YteamagejhbkhnaaW.PrintWords Go.Proofs.YteamagejhbkhnaaW.PrintLast Go.Proofs.YteamagejhbkhnaaW.PrintMore
attribute [local go_sem] max2_int min2_int max_two min_two max_three min_three max_four min_four   -- for this text's walks alone
def XT.f (k:Nat) (l0_0:List (S56)) (a0_1:Int) (a0_2:Bool) (l0_3:List (S187)) (l0_4:List (S189)) (l1_0:List (S56)) (a1_1:Int) (a1_2:Bool) (l1_3:List (S187)) (l1_4:List (S189)):Option (Bool):=(Xm.f k l0_0 l1_0).bind fun t103=>(if t103=true then (if a0_1=a1_1 then (if (a0_2 != a1_2)=true then (some false) else ((Xe.f k l0_3 l1_3).bind fun t104=>(if t104=true then ((Xf.f k l0_4 l1_4).bind fun t105=>(if t105=true then (some true) else (some false))) else (some false)))) else (some false)) else (some false))
theorem XT.calls (k:Nat) (A0_0:Option Addr) (c0_0:Nat) (l0_0:List (S56)) (a0_1:Int) (a0_2:Bool) (A0_3:Option Addr) (c0_3:Nat) (l0_3:List (S187)) (A0_4:Option Addr) (c0_4:Nat) (l0_4:List (S189)) (A1_0:Option Addr) (c1_0:Nat) (l1_0:List (S56)) (a1_1:Int) (a1_2:Bool) (A1_3:Option Addr) (c1_3:Nat) (l1_3:List (S187)) (A1_4:Option Addr) (c1_4:Nat) (l1_4:List (S189)) (r:Bool) (w:World) (hr0_0:Kd.C k56 w A0_0 l0_0.length l0_0) (hc0_0:l0_0.length≤c0_0) (hr0_3:Kd.C k187 w A0_3 l0_3.length l0_3) (hc0_3:l0_3.length≤c0_3) (hr0_4:Kd.C k189 w A0_4 l0_4.length l0_4) (hc0_4:l0_4.length≤c0_4) (hr1_0:Kd.C k56 w A1_0 l1_0.length l1_0) (hc1_0:l1_0.length≤c1_0) (hr1_3:Kd.C k187 w A1_3 l1_3.length l1_3) (hc1_3:l1_3.length≤c1_3) (hr1_4:Kd.C k189 w A1_4 l1_4.length l1_4) (hc1_4:l1_4.length≤c1_4) (h:XT.f k l0_0 a0_1 a0_2 l0_3 l0_4 l1_0 a1_1 a1_2 l1_3 l1_4=some r) :
  Calls Try.prog 146 #[.agg #[.slice A0_0 l0_0.length c0_0,.int .i64 a0_1,.bool a0_2,.slice A0_3 l0_3.length c0_3,.slice A0_4 l0_4.length c0_4],.agg #[.slice A1_0 l1_0.length c1_0,.int .i64 a1_1,.bool a1_2,.slice A1_3 l1_3.length c1_3,.slice A1_4 l1_4.length c1_4]] w fun e w'=>e = .returned (.bool r)∧Below w.heap.size w w':=by
 have hu146:=Try.underlying146
 have HR0_0:=Aside0.mk hr0_0
 have HC0_0:=Aside0.mk hc0_0
 clear hr0_0 hc0_0
 have HR0_3:=Aside0.mk hr0_3
 have HC0_3:=Aside0.mk hc0_3
 clear hr0_3 hc0_3
 have HR0_4:=Aside0.mk hr0_4
 have HC0_4:=Aside0.mk hc0_4
 clear hr0_4 hc0_4
 have HR1_0:=Aside0.mk hr1_0
 have HC1_0:=Aside0.mk hc1_0
 clear hr1_0 hc1_0
 have HR1_3:=Aside0.mk hr1_3
 have HC1_3:=Aside0.mk hc1_3
 clear hr1_3 hc1_3
 have HR1_4:=Aside0.mk hr1_4
 have HC1_4:=Aside0.mk hc1_4
 clear hr1_4 hc1_4
 have HB:=Aside0.mk (Below.refl w.heap.size w)
 have H:=h
 unfold XT.f at H
 clear h
 replace H:=bE H;obtain⟨t103,A3,H⟩:=H
 go_enter Try.func146,Try.ntmps146
 go_wp2_with (first | ((with_reducible refine gate_dst (N:=2) rfl ?_);refine boxE 2 #[.slice A0_0 l0_0.length c0_0,.int .i64 a0_1,.bool a0_2,.slice A0_3 l0_3.length c0_3,.slice A0_4 l0_4.length c0_4] 146 ?_;intro gbz1 hg wz1 hbox hb;have BKz1:=Aside0.mk (hbox);have GWz1:=Aside0.mk (gX' hg (hX HB.out));have GEz1:=Aside0.mk (gX' hg (hX HB.out));replace HB:=Aside0.mk (below_step (hX HB.out) hb);clear hb hbox hg) | ((with_reducible refine gate_dst (N:=3) rfl ?_);refine boxE 3 #[.slice A1_0 l1_0.length c1_0,.int .i64 a1_1,.bool a1_2,.slice A1_3 l1_3.length c1_3,.slice A1_4 l1_4.length c1_4] 146 ?_;intro gbz2 hg wz2 hbox hb;have BKz2:=Aside0.mk (hbox);have GWz2:=Aside0.mk (gX' hg (hX HB.out));have GEz2:=Aside0.mk (gX' hg (hX HB.out));have NBz1:=Aside0.mk (gL hg (bX BKz1.out));have NBz2:=Aside0.mk (gG hg (bX BKz1.out));replace BKz1:=Aside0.mk (blk_below (bX BKz1.out) hb);replace HB:=Aside0.mk (below_step (hX HB.out) hb);clear hb hbox hg;have hnbz1:=NBz1.out;have hncz1:=NBz2.out;obtain⟨hczz1,hczz2,hczz3,hczz4,hczz5,hfzz1,hfzz2,hfzz3,hfzz4,hfzz5⟩:=cZ5 BKz1.out;obtain⟨hczz6,hczz7,hczz8,hczz9,hczz10,hfzz6,hfzz7,hfzz8,hfzz9,hfzz10⟩:=cZ5 BKz2.out;refine Stop.out ?_))
 refine⟨?_⟩
 by_cases c4:t103=true
 ·subst c4
  rw[if_pos rfl] at H
  go_wp2_with (first | ((with_reducible refine gate_callee (f:=171) rfl ?_);refine goesM 171 9 Try.func171 #[.slice A0_0 l0_0.length c0_0,.slice A1_0 l1_0.length c1_0] ?_;refine(Xm.calls k _ _ l0_0 _ _ l1_0 true _ (cC HR0_0.out HB.out) HC0_0.out (cC HR1_0.out HB.out) HC1_0.out A3.out).mono ?_;rintro e wz3 ⟨rfl,hb⟩;refine⟨_,rfl,?_⟩;replace BKz1:=Aside0.mk (blk_below (bX BKz1.out) hb);replace BKz2:=Aside0.mk (blk_below (bX BKz2.out) hb);replace HB:=Aside0.mk (below_step (hX HB.out) hb);clear hb;obtain⟨hczz11,hczz12,hczz13,hczz14,hczz15,hfzz11,hfzz12,hfzz13,hfzz14,hfzz15⟩:=cZ5 BKz1.out;obtain⟨hczz16,hczz17,hczz18,hczz19,hczz20,hfzz16,hfzz17,hfzz18,hfzz19,hfzz20⟩:=cZ5 BKz2.out;refine Stop.out ?_))
  refine⟨?_⟩
  by_cases c5:a0_1=a1_1
  ·rw[if_pos c5] at H
   obtain⟨c5b0,c5b1⟩:=eqT c5
   clear c5
   by_cases c6:(a0_2 != a1_2)=true
   ·rw[if_pos c6] at H
    have c6b0:(a0_2 != a1_2)=true:=c6
    (try (have c6b1:decide (a0_2=a1_2)=false:=by simpa using c6))
    (try (have c6b2:(a0_2 == a1_2)=false:=by simpa using c6))
    (try (have c6b3:¬ (a0_2=a1_2):=by simpa using c6))
    clear c6
    obtain rfl:=Option.some.inj H
    go_wp2
    go_ret
    exact⟨rE,(hX HB.out)⟩
   ·rw[if_neg c6] at H
    have c6b0:(a0_2 != a1_2)=false:=by simpa using c6
    (try (have c6b1:decide (a0_2=a1_2)=true:=by simpa using c6))
    (try (have c6b2:(a0_2 == a1_2)=true:=by simpa using c6))
    clear c6
    replace H:=bE H;obtain⟨t104,A15,H⟩:=H
    by_cases c16:t104=true
    ·subst c16
     rw[if_pos rfl] at H
     replace H:=bE H;obtain⟨t105,A17,H⟩:=H
     go_wp2_with (first | ((with_reducible refine gate_callee (f:=172) rfl ?_);refine goesM 172 25 Try.func172 #[.slice A0_3 l0_3.length c0_3,.slice A1_3 l1_3.length c1_3] ?_;refine(Xe.calls k _ _ l0_3 _ _ l1_3 true _ (cC HR0_3.out HB.out) HC0_3.out (cC HR1_3.out HB.out) HC1_3.out A15.out).mono ?_;rintro e wz4 ⟨rfl,hb⟩;refine⟨_,rfl,?_⟩;replace BKz1:=Aside0.mk (blk_below (bX BKz1.out) hb);replace BKz2:=Aside0.mk (blk_below (bX BKz2.out) hb);replace HB:=Aside0.mk (below_step (hX HB.out) hb);clear hb;obtain⟨hczz21,hczz22,hczz23,hczz24,hczz25,hfzz21,hfzz22,hfzz23,hfzz24,hfzz25⟩:=cZ5 BKz1.out;obtain⟨hczz26,hczz27,hczz28,hczz29,hczz30,hfzz26,hfzz27,hfzz28,hfzz29,hfzz30⟩:=cZ5 BKz2.out;refine Stop.out ?_))
     refine⟨?_⟩
     by_cases c18:t105=true
     ·subst c18
      rw[if_pos rfl] at H
      obtain rfl:=Option.some.inj H
      go_wp2_with (first | ((with_reducible refine gate_callee (f:=173) rfl ?_);refine goesM 173 31 Try.func173 #[.slice A0_4 l0_4.length c0_4,.slice A1_4 l1_4.length c1_4] ?_;refine(Xf.calls k _ _ l0_4 _ _ l1_4 true _ (cC HR0_4.out HB.out) HC0_4.out (cC HR1_4.out HB.out) HC1_4.out A17.out).mono ?_;rintro e wz5 ⟨rfl,hb⟩;refine⟨_,rfl,?_⟩;replace BKz1:=Aside0.mk (blk_below (bX BKz1.out) hb);replace BKz2:=Aside0.mk (blk_below (bX BKz2.out) hb);replace HB:=Aside0.mk (below_step (hX HB.out) hb);clear hb))
      go_ret
      exact⟨rE,(hX HB.out)⟩
     ·replace c18:=Bool.eq_false_iff.mpr c18
      subst c18
      rw[if_neg nft] at H
      obtain rfl:=Option.some.inj H
      go_wp2_with (first | ((with_reducible refine gate_callee (f:=173) rfl ?_);refine goesM 173 31 Try.func173 #[.slice A0_4 l0_4.length c0_4,.slice A1_4 l1_4.length c1_4] ?_;refine(Xf.calls k _ _ l0_4 _ _ l1_4 false _ (cC HR0_4.out HB.out) HC0_4.out (cC HR1_4.out HB.out) HC1_4.out A17.out).mono ?_;rintro e wz5 ⟨rfl,hb⟩;refine⟨_,rfl,?_⟩;replace BKz1:=Aside0.mk (blk_below (bX BKz1.out) hb);replace BKz2:=Aside0.mk (blk_below (bX BKz2.out) hb);replace HB:=Aside0.mk (below_step (hX HB.out) hb);clear hb))
      go_ret
      exact⟨rE,(hX HB.out)⟩
    ·replace c16:=Bool.eq_false_iff.mpr c16
     subst c16
     rw[if_neg nft] at H
     obtain rfl:=Option.some.inj H
     go_wp2_with (first | ((with_reducible refine gate_callee (f:=172) rfl ?_);refine goesM 172 25 Try.func172 #[.slice A0_3 l0_3.length c0_3,.slice A1_3 l1_3.length c1_3] ?_;refine(Xe.calls k _ _ l0_3 _ _ l1_3 false _ (cC HR0_3.out HB.out) HC0_3.out (cC HR1_3.out HB.out) HC1_3.out A15.out).mono ?_;rintro e wz4 ⟨rfl,hb⟩;refine⟨_,rfl,?_⟩;replace BKz1:=Aside0.mk (blk_below (bX BKz1.out) hb);replace BKz2:=Aside0.mk (blk_below (bX BKz2.out) hb);replace HB:=Aside0.mk (below_step (hX HB.out) hb);clear hb))
     go_ret
     exact⟨rE,(hX HB.out)⟩
  ·rw[if_neg c5] at H
   obtain⟨c5b0,c5b1⟩:=eqF c5
   obtain rfl:=Option.some.inj H
   go_wp2
   go_ret
   exact⟨rE,(hX HB.out)⟩
 ·replace c4:=Bool.eq_false_iff.mpr c4
  subst c4
  rw[if_neg nft] at H
  obtain rfl:=Option.some.inj H
  go_wp2_with (first | ((with_reducible refine gate_callee (f:=171) rfl ?_);refine goesM 171 9 Try.func171 #[.slice A0_0 l0_0.length c0_0,.slice A1_0 l1_0.length c1_0] ?_;refine(Xm.calls k _ _ l0_0 _ _ l1_0 false _ (cC HR0_0.out HB.out) HC0_0.out (cC HR1_0.out HB.out) HC1_0.out A3.out).mono ?_;rintro e wz3 ⟨rfl,hb⟩;refine⟨_,rfl,?_⟩;replace BKz1:=Aside0.mk (blk_below (bX BKz1.out) hb);replace BKz2:=Aside0.mk (blk_below (bX BKz2.out) hb);replace HB:=Aside0.mk (below_step (hX HB.out) hb);clear hb))
  go_ret
  exact⟨rE,(hX HB.out)⟩
end Go.Proofs.Yteamagejhbkhnaa.P
namespace Go.Proofs.YteamagejhbkhnaaZ
open Go.RowKit Go.Proofs.YteamagejhbkhnaaW.PrintWords Go.Proofs.YteamagejhbkhnaaW.PrintLast Go.Proofs.YteamagejhbkhnaaW.PrintMore
section
variable {α : Type} {d : Kd α} {e : Nat} {w0 w : World} {base : Nat} {ok : Nat → Prop} {A : Option Addr} {n c : Nat} {xs : List α}
theorem rD (h : d.R e w0 base ok (.slice A n c) xs) (f : d.C w0 A xs.length xs → d.C w A xs.length xs := by intro h_; repeat (first | exact h_ | (with_reducible refine Kd.C_alloc ?_ _) | (with_reducible refine Kd.C_drewN ?_ _) | (with_reducible refine Kd.C_drew ?_))) : d.C w A xs.length xs := f (Kd.R_reads' h).2.2
theorem rL (h : d.R e w0 base ok (.slice A n c) xs) : n ≤ c := (Kd.R_reads' h).2.1
theorem sD (h : Kd.S d e w0 base ok (.slice A n c) xs) (f : d.C w0 A xs.length xs → d.C w A xs.length xs := by intro h_; repeat (first | exact h_ | (with_reducible refine Kd.C_alloc ?_ _) | (with_reducible refine Kd.C_drewN ?_ _) | (with_reducible refine Kd.C_drew ?_))) : d.C w A xs.length xs := f (Kd.S_reads' h).2.2
theorem sL (h : Kd.S d e w0 base ok (.slice A n c) xs) : n ≤ c := (Kd.S_reads' h).2.1
end
end Go.Proofs.YteamagejhbkhnaaZ
namespace Go.Proofs.Yteamagejhbkhnaa.P
open Go.RowKit Go.Proofs.YteamagejhbkhnaaW.PrintWords Go.Proofs.YteamagejhbkhnaaW.PrintLast Go.Proofs.YteamagejhbkhnaaZ
abbrev lWord:=S172
abbrev iWord:=S170
def cWord (x:lWord):iWord:=⟨x.f0,x.f1,x.f2⟩
theorem szWordS_eq (l:List lWord) (t:Int) (h0:0≤t) (h1:t≤1048576) (hl:l.length≤9223372036854775807):X4.f l t=some (lf (l.length:Int) t):=by
 have e:wrap64 (t - (l.length:Int))=t - l.length:=w64 (by omega) (by omega)
 unfold X4.f lf
 rw[e]
 by_cases h:(l.length:Int)≤t
 ·rw[if_neg (by omega),if_pos h]
 ·rw[if_pos (by omega),if_neg h]
theorem toWordS_ev (l:List lWord) (hl:l.length≤1048576):Ev (fun k=>XA.f k l) (l.map cWord):=by
 have c1:(0:Int)≤(l.length:Int):=by omega
 simp only[XA.f,c1,if_true,Int.toNat_natCast]
 refine Ev.pos (by omega) ?_
 refine fill_ev l cWord z170 (g:=fun k s i=>XA.l0 k l s i) ?_ ?_
 ·intro s hs
  refine Ev.shift ?_
  simp only[XA.l0,Int.lt_irrefl,if_false]
  exact Ev.now _
 ·intro s i x r hx hs hi h
  have hr:rd_T172 l (i:Int)=x:=getD_get hx
  refine Ev.shift ?_
  have d1:(i:Int)<(l.length:Int):=by omega
  have d2:(0:Int)≤(i:Int):=by omega
  have d3:(i:Int)<(s.length:Int):=by omega
  simp only[XA.l0,Xan.f,Option.bind_some,d1,d2,d3,if_true,hr,Int.toNat_natCast,succ64 hi (by omega)]
  exact h
theorem eqWordS_ev (l:List iWord) (hl:l.length≤9223372036854775807):Ev (fun k=>Xd.f k l l) true:=by
 simp only[Xd.f,if_true]
 refine look_ev l true (g:=fun k i=>Xd.l0 k l l i) ?_ ?_
 ·refine Ev.shift ?_
  simp only[Xd.l0,Int.lt_irrefl,if_false]
  exact Ev.now _
 ·intro i x hx hi h
  refine Ev.shift ?_
  have d1:(i:Int)<(l.length:Int):=by omega
  have d2:(0:Int)≤(i:Int):=by omega
  simp only[Xd.l0,Xad.f,bne_self_eq_false,Bool.false_eq_true,if_false,Option.bind_some,d1,d2,if_true,succ64 hi hl]
  exact h
abbrev lEntry:=S202
abbrev iEntry:=S200
def cEntry (x:lEntry):iEntry:=⟨x.f0,x.f1,x.f2⟩
theorem szEntryS_eq (l:List lEntry) (t:Int) (h0:0≤t) (h1:t≤1048576) (hl:l.length≤9223372036854775807):XW.f l t=some (lf (l.length:Int) t):=by
 have e:wrap64 (t - (l.length:Int))=t - l.length:=w64 (by omega) (by omega)
 unfold XW.f lf
 rw[e]
 by_cases h:(l.length:Int)≤t
 ·rw[if_neg (by omega),if_pos h]
 ·rw[if_pos (by omega),if_neg h]
theorem toEntryS_ev (l:List lEntry) (hl:l.length≤1048576):Ev (fun k=>Xt.f k l) (l.map cEntry):=by
 have c1:(0:Int)≤(l.length:Int):=by omega
 simp only[Xt.f,c1,if_true,Int.toNat_natCast]
 refine Ev.pos (by omega) ?_
 refine fill_ev l cEntry z200 (g:=fun k s i=>Xt.l0 k l s i) ?_ ?_
 ·intro s hs
  refine Ev.shift ?_
  simp only[Xt.l0,Int.lt_irrefl,if_false]
  exact Ev.now _
 ·intro s i x r hx hs hi h
  have hr:rd_T202 l (i:Int)=x:=getD_get hx
  refine Ev.shift ?_
  have d1:(i:Int)<(l.length:Int):=by omega
  have d2:(0:Int)≤(i:Int):=by omega
  have d3:(i:Int)<(s.length:Int):=by omega
  simp only[Xt.l0,Xak.f,Option.bind_some,d1,d2,d3,if_true,hr,Int.toNat_natCast,succ64 hi (by omega)]
  exact h
theorem eqEntryS_ev (l:List iEntry) (hl:l.length≤9223372036854775807):Ev (fun k=>Xc.f k l l) true:=by
 simp only[Xc.f,if_true]
 refine look_ev l true (g:=fun k i=>Xc.l0 k l l i) ?_ ?_
 ·refine Ev.shift ?_
  simp only[Xc.l0,Int.lt_irrefl,if_false]
  exact Ev.now _
 ·intro i x hx hi h
  refine Ev.shift ?_
  have d1:(i:Int)<(l.length:Int):=by omega
  have d2:(0:Int)≤(i:Int):=by omega
  simp only[Xc.l0,X5.f,bne_self_eq_false,Bool.false_eq_true,if_false,Option.bind_some,d1,d2,if_true,succ64 hi hl]
  exact h
theorem lf_then {a b t:Int} {G:Int→Option Int} (ha:0≤a) (hb:0≤b) (ht:t≤1048576) (hG:∀ u,0≤u→u≤1048576→G u=some (lf b u)):(if lf a t<0 then some (-1) else G (lf a t))=some (lf (a+b) t):=by
 by_cases h:a≤t
 ·rw[lf_pos h,if_neg (by omega),hG _ (by omega) (by omega)]
  unfold lf
  by_cases h2:b≤t - a
  ·rw[if_pos h2,if_pos (by omega)];congr 1;omega
  ·rw[if_neg h2,if_neg (by omega)]
 ·rw[lf_neg h,if_pos (by decide),lf_neg (by omega)]
theorem lf_last {a t:Int} (ha:0≤a):(if lf a t<0 then some (-1) else some (lf a t))=some (lf a t):=by
 by_cases h:a≤t
 ·rw[lf_pos h,if_neg (by omega)]
 ·rw[lf_neg h,if_pos (by decide)]
theorem szRes_eq (a:Int) (l:List Int) (t:Int) (h0:0≤t) (h1:t≤1048576) (hl:l.length≤9223372036854775807):XS.f a l t=some (lf (l.length:Int) t):=by
 simp only[XS.f]
 rw[szIntS_eq l t h0 h1 hl,Option.bind_some]
 exact lf_last (by omega)
theorem toRes_ev (a:Int) (l:List Int) (hl:l.length≤1048576):Ev (fun k=>XZ.f k a l) (a,l):=by
 simp only[XZ.f]
 exact Ev.bind (toIntS_ev l hl) (Ev.now _)
theorem eqRes_ev (a:Int) (l:List Int) (hl:l.length≤9223372036854775807):Ev (fun k=>XR.f k a l a l) true:=by
 simp only[XR.f,if_true]
 refine Ev.bind (eqIntS_ev l hl) ?_
 simp only[if_true]
 exact Ev.now _
theorem ctl_mem {τ:Type} {ct:τ→Int} (h:∀ x,0≤ct x) {x:τ} : ∀ {l:List τ},x ∈ l→ct x≤ctl ct l
 | [],m=>by cases m
 | y :: l,m=>by
  have h1:=h y
  have h2:=ctl_nonneg h l
  simp only[ctl]
  rcases List.mem_cons.mp m with e | m
  ·rw[e];omega
  ·have:=ctl_mem h m;omega
abbrev lOp:=S49
abbrev iOp:=S56
def cOp (x:lOp):iOp:=⟨x.f0,x.f1,x.f2⟩
theorem szOpS_eq (l:List lOp) (t:Int) (h0:0≤t) (h1:t≤1048576) (hl:l.length≤9223372036854775807):Xam.f l t=some (lf (l.length:Int) t):=by
 have e:wrap64 (t - (l.length:Int))=t - l.length:=w64 (by omega) (by omega)
 unfold Xam.f lf
 rw[e]
 by_cases h:(l.length:Int)≤t
 ·rw[if_neg (by omega),if_pos h]
 ·rw[if_pos (by omega),if_neg h]
theorem toOpS_ev (l:List lOp) (hl:l.length≤1048576):Ev (fun k=>XK.f k l) (l.map cOp):=by
 have c1:(0:Int)≤(l.length:Int):=by omega
 simp only[XK.f,c1,if_true,Int.toNat_natCast]
 refine Ev.pos (by omega) ?_
 refine fill_ev l cOp z56 (g:=fun k s i=>XK.l0 k l s i) ?_ ?_
 ·intro s hs
  refine Ev.shift ?_
  simp only[XK.l0,Int.lt_irrefl,if_false]
  exact Ev.now _
 ·intro s i x r hx hs hi h
  have hr:rd_T49 l (i:Int)=x:=getD_get hx
  refine Ev.shift ?_
  have d1:(i:Int)<(l.length:Int):=by omega
  have d2:(0:Int)≤(i:Int):=by omega
  have d3:(i:Int)<(s.length:Int):=by omega
  simp only[XK.l0,X8.f,Option.bind_some,d1,d2,d3,if_true,hr,Int.toNat_natCast,succ64 hi (by omega)]
  exact h
theorem eqOpS_ev (l:List iOp) (hl:l.length≤9223372036854775807):Ev (fun k=>Xm.f k l l) true:=by
 simp only[Xm.f,if_true]
 refine look_ev l true (g:=fun k i=>Xm.l0 k l l i) ?_ ?_
 ·refine Ev.shift ?_
  simp only[Xm.l0,Int.lt_irrefl,if_false]
  exact Ev.now _
 ·intro i x hx hi h
  refine Ev.shift ?_
  have d1:(i:Int)<(l.length:Int):=by omega
  have d2:(0:Int)≤(i:Int):=by omega
  simp only[Xm.l0,XV.f,bne_self_eq_false,Bool.false_eq_true,if_false,Option.bind_some,d1,d2,if_true,succ64 hi hl]
  exact h
abbrev lPair:=S193
abbrev iPair:=S187
def cPair (x:lPair):iPair:=⟨x.f0,x.f1⟩
theorem szPairS_eq (l:List lPair) (t:Int) (h0:0≤t) (h1:t≤1048576) (hl:l.length≤9223372036854775807):XQ.f l t=some (lf (l.length:Int) t):=by
 have e:wrap64 (t - (l.length:Int))=t - l.length:=w64 (by omega) (by omega)
 unfold XQ.f lf
 rw[e]
 by_cases h:(l.length:Int)≤t
 ·rw[if_neg (by omega),if_pos h]
 ·rw[if_pos (by omega),if_neg h]
theorem toPairS_ev (l:List lPair) (hl:l.length≤1048576):Ev (fun k=>XB.f k l) (l.map cPair):=by
 have c1:(0:Int)≤(l.length:Int):=by omega
 simp only[XB.f,c1,if_true,Int.toNat_natCast]
 refine Ev.pos (by omega) ?_
 refine fill_ev l cPair z187 (g:=fun k s i=>XB.l0 k l s i) ?_ ?_
 ·intro s hs
  refine Ev.shift ?_
  simp only[XB.l0,Int.lt_irrefl,if_false]
  exact Ev.now _
 ·intro s i x r hx hs hi h
  have hr:rd_T193 l (i:Int)=x:=getD_get hx
  refine Ev.shift ?_
  have d1:(i:Int)<(l.length:Int):=by omega
  have d2:(0:Int)≤(i:Int):=by omega
  have d3:(i:Int)<(s.length:Int):=by omega
  simp only[XB.l0,Xao.f,Option.bind_some,d1,d2,d3,if_true,hr,Int.toNat_natCast,succ64 hi (by omega)]
  exact h
theorem eqPairS_ev (l:List iPair) (hl:l.length≤9223372036854775807):Ev (fun k=>Xe.f k l l) true:=by
 simp only[Xe.f,if_true]
 refine look_ev l true (g:=fun k i=>Xe.l0 k l l i) ?_ ?_
 ·refine Ev.shift ?_
  simp only[Xe.l0,Int.lt_irrefl,if_false]
  exact Ev.now _
 ·intro i x hx hi h
  refine Ev.shift ?_
  have d1:(i:Int)<(l.length:Int):=by omega
  have d2:(0:Int)≤(i:Int):=by omega
  simp only[Xe.l0,Xae.f,bne_self_eq_false,Bool.false_eq_true,if_false,Option.bind_some,d1,d2,if_true,succ64 hi hl]
  exact h
abbrev lHelp:=S195
abbrev iHelp:=S189
def cHelp (x:lHelp):iHelp:=⟨x.f0,x.f1,x.f2,x.f3⟩
theorem szHelpS_eq (l:List lHelp) (t:Int) (h0:0≤t) (h1:t≤1048576) (hl:l.length≤9223372036854775807):XN.f l t=some (lf (l.length:Int) t):=by
 have e:wrap64 (t - (l.length:Int))=t - l.length:=w64 (by omega) (by omega)
 unfold XN.f lf
 rw[e]
 by_cases h:(l.length:Int)≤t
 ·rw[if_neg (by omega),if_pos h]
 ·rw[if_pos (by omega),if_neg h]
theorem toHelpS_ev (l:List lHelp) (hl:l.length≤1048576):Ev (fun k=>XC.f k l) (l.map cHelp):=by
 have c1:(0:Int)≤(l.length:Int):=by omega
 simp only[XC.f,c1,if_true,Int.toNat_natCast]
 refine Ev.pos (by omega) ?_
 refine fill_ev l cHelp z189 (g:=fun k s i=>XC.l0 k l s i) ?_ ?_
 ·intro s hs
  refine Ev.shift ?_
  simp only[XC.l0,Int.lt_irrefl,if_false]
  exact Ev.now _
 ·intro s i x r hx hs hi h
  have hr:rd_T195 l (i:Int)=x:=getD_get hx
  refine Ev.shift ?_
  have d1:(i:Int)<(l.length:Int):=by omega
  have d2:(0:Int)≤(i:Int):=by omega
  have d3:(i:Int)<(s.length:Int):=by omega
  simp only[XC.l0,Xap.f,Option.bind_some,d1,d2,d3,if_true,hr,Int.toNat_natCast,succ64 hi (by omega)]
  exact h
theorem eqHelpS_ev (l:List iHelp) (hl:l.length≤9223372036854775807):Ev (fun k=>Xf.f k l l) true:=by
 simp only[Xf.f,if_true]
 refine look_ev l true (g:=fun k i=>Xf.l0 k l l i) ?_ ?_
 ·refine Ev.shift ?_
  simp only[Xf.l0,Int.lt_irrefl,if_false]
  exact Ev.now _
 ·intro i x hx hi h
  refine Ev.shift ?_
  have d1:(i:Int)<(l.length:Int):=by omega
  have d2:(0:Int)≤(i:Int):=by omega
  simp only[Xf.l0,Xaf.f,bne_self_eq_false,Bool.false_eq_true,if_false,Option.bind_some,d1,d2,if_true,succ64 hi hl]
  exact h
end Go.Proofs.Yteamagejhbkhnaa.P
