/- A part of the proof of the law FnStarts: texts of this seat, merged (words, printed functions of the program, plain lemmas). Conditions: none of its own. -/
import Derived.Test.YthejoblnfpaojaaGreatPkFnStarts42
set_option linter.unusedSimpArgs false
set_option linter.unusedVariables false
set_option maxHeartbeats 8000000
set_option maxRecDepth 100000
namespace Go.Proofs.YthejoblnfpaojaaGreat.P
open Go.Proofs.YthejoblnfpaojaaGreatZ Go.RowKit Go.Proofs.YthejoblnfpaojaaGreatW.PrintWords Go.Proofs.YthejoblnfpaojaaGreatW.PrintLast Go.Proofs.YthejoblnfpaojaaGreatW.PrintMore
attribute [local go_sem] max2_int min2_int max_two min_two max_three min_three max_four min_four   -- for this text's walks alone
def XaB.f (k:Nat) (l0_0:List (S51)) (l0_1:List (S58)) (l0_2:List (S108)) (a0_3:Int) (l0_4:List (S80)) (l0_5:List Int) (l0_6:List Int) (a0_7:Int):Option (Bool):=(XaA.f k l0_0 l0_1 l0_2 a0_3 l0_4 l0_5 l0_6 a0_7).bind fun t102=>(if t102=true then ((XF.f k l0_0 l0_1 l0_2 a0_3 l0_4 l0_5 l0_6 a0_7).bind fun t103=>(if t103=true then ((Xr.f k l0_0 l0_1 l0_2 a0_3 l0_4 l0_5 l0_6 a0_7).bind fun t104=>(some t104)) else (some false))) else (some false))
theorem XaB.calls (k:Nat) (A0_0:Option Addr) (c0_0:Nat) (l0_0:List (S51)) (A0_1:Option Addr) (c0_1:Nat) (l0_1:List (S58)) (A0_2:Option Addr) (c0_2:Nat) (l0_2:List (S108)) (a0_3:Int) (A0_4:Option Addr) (c0_4:Nat) (l0_4:List (S80)) (A0_5:Option Addr) (c0_5:Nat) (l0_5:List Int) (A0_6:Option Addr) (c0_6:Nat) (l0_6:List Int) (a0_7:Int) (r:Bool) (w:World) (h0_0:Rw k51 w A0_0 c0_0 l0_0) (h0_1:Rw k58 w A0_1 c0_1 l0_1) (h0_2:Rw k108 w A0_2 c0_2 l0_2) (h0_4:Rw k80 w A0_4 c0_4 l0_4) (h0_5:Rw (Kd.int .i64) w A0_5 c0_5 l0_5) (h0_6:Rw (Kd.int .i64) w A0_6 c0_6 l0_6) (H:XaB.f k l0_0 l0_1 l0_2 a0_3 l0_4 l0_5 l0_6 a0_7=some r) :
  Calls Tryz.prog 15 #[.agg #[.slice A0_0 l0_0.length c0_0,.slice A0_1 l0_1.length c0_1,.slice A0_2 l0_2.length c0_2,.int .i64 a0_3,.slice A0_4 l0_4.length c0_4,.slice A0_5 l0_5.length c0_5,.slice A0_6 l0_6.length c0_6,.int .i64 a0_7]] w fun e w'=>e = .returned (.bool r)∧Below w.heap.size w w':=by
 have hu37:=Tryz.underlying37
 obtain⟨HR0_0,HC0_0⟩:=h0_0
 obtain⟨HR0_1,HC0_1⟩:=h0_1
 obtain⟨HR0_2,HC0_2⟩:=h0_2
 obtain⟨HR0_4,HC0_4⟩:=h0_4
 obtain⟨HR0_5,HC0_5⟩:=h0_5
 obtain⟨HR0_6,HC0_6⟩:=h0_6
 have HB:=aM (Below.refl w.heap.size w)
 unfold XaB.f at H
 replace H:=bE H;obtain⟨t102,A2,H⟩:=H
 go_enter Tryz.func15,Tryz.ntmps15
 go_wp2_with (refine boxE 1 #[.slice A0_0 l0_0.length c0_0,.slice A0_1 l0_1.length c0_1,.slice A0_2 l0_2.length c0_2,.int .i64 a0_3,.slice A0_4 l0_4.length c0_4,.slice A0_5 l0_5.length c0_5,.slice A0_6 l0_6.length c0_6,.int .i64 a0_7] 37 ?_;intro gbz1 hg wz1 hbox hb;have BKz1:=aM (hbox);have GWz1:=aG hg HB;replace HB:=aS HB hb;clear hb hbox hg;have hczz1:=cZ8 BKz1.out;refine Stop.out ?_)
 refine⟨?_⟩
 cases t102
 case false =>
  rw[if_neg nft] at H
  obtain rfl:=sI H
  go_wp2_with (refine gB 66 4 Tryz.func66 (XaA.calls _ _ _ _ _ _ _ _ _ _ _ _ _ _ _ _ _ _ _ _ _ _ _ (rW HR0_0 HB HC0_0) (rW HR0_1 HB HC0_1) (rW HR0_2 HB HC0_2) (rW HR0_4 HB HC0_4) (rW HR0_5 HB HC0_5) (rW HR0_6 HB HC0_6) A2.out) ?_;intro wz2 hb;replace BKz1:=aB BKz1 hb;replace HB:=aS HB hb;clear hb)
  go_ret
  exact⟨rE,(hX HB.out)⟩
 rw[if_pos rfl] at H
 replace H:=bE H;obtain⟨t103,A4,H⟩:=H
 go_wp2_with (refine gB 66 4 Tryz.func66 (XaA.calls _ _ _ _ _ _ _ _ _ _ _ _ _ _ _ _ _ _ _ _ _ _ _ (rW HR0_0 HB HC0_0) (rW HR0_1 HB HC0_1) (rW HR0_2 HB HC0_2) (rW HR0_4 HB HC0_4) (rW HR0_5 HB HC0_5) (rW HR0_6 HB HC0_6) A2.out) ?_;intro wz2 hb;replace BKz1:=aB BKz1 hb;replace HB:=aS HB hb;clear hb;have hczz9:=cZ8 BKz1.out;refine Stop.out ?_)
 refine⟨?_⟩
 cases t103
 case false =>
  rw[if_neg nft] at H
  obtain rfl:=sI H
  go_wp2_with (go_at_call 67;(with_reducible refine(XF.calls _ _ _ _ _ _ _ _ _ _ _ _ _ _ _ _ _ _ _ _ _ _ _ (rW HR0_0 HB HC0_0) (rW HR0_1 HB HC0_1) (rW HR0_2 HB HC0_2) (rW HR0_4 HB HC0_4) (rW HR0_5 HB HC0_5) (rW HR0_6 HB HC0_6) A4.out).mono ?_);rintro e wz3 ⟨rfl,hb⟩;replace BKz1:=aB BKz1 hb;replace HB:=aS HB hb;clear hb)
  go_ret
  exact⟨rE,(hX HB.out)⟩
 rw[if_pos rfl] at H
 replace H:=bE H;obtain⟨t104,A6,H⟩:=H
 obtain rfl:=sI H
 go_wp2_with (first | (go_at_call 67;(with_reducible refine(XF.calls _ _ _ _ _ _ _ _ _ _ _ _ _ _ _ _ _ _ _ _ _ _ _ (rW HR0_0 HB HC0_0) (rW HR0_1 HB HC0_1) (rW HR0_2 HB HC0_2) (rW HR0_4 HB HC0_4) (rW HR0_5 HB HC0_5) (rW HR0_6 HB HC0_6) A4.out).mono ?_);rintro e wz3 ⟨rfl,hb⟩;replace BKz1:=aB BKz1 hb;replace HB:=aS HB hb;clear hb;have hczz17:=cZ8 BKz1.out) | (go_at_call 68;(with_reducible refine(Xr.calls _ _ _ _ _ _ _ _ _ _ _ _ _ _ _ _ _ _ _ _ _ _ _ (rW HR0_0 HB HC0_0) (rW HR0_1 HB HC0_1) (rW HR0_2 HB HC0_2) (rW HR0_4 HB HC0_4) (rW HR0_5 HB HC0_5) (rW HR0_6 HB HC0_6) A6.out).mono ?_);rintro e wz4 ⟨rfl,hb⟩;replace BKz1:=aB BKz1 hb;replace HB:=aS HB hb;clear hb))
 go_ret
 exact⟨rE,(hX HB.out)⟩
end Go.Proofs.YthejoblnfpaojaaGreat.P
namespace Go.Proofs.YthejoblnfpaojaaGreat.P
open Go.RowKit Go.Proofs.YthejoblnfpaojaaGreatW.PrintWords Go.Proofs.YthejoblnfpaojaaGreatW.PrintLast Go.Proofs.YthejoblnfpaojaaGreatZ
abbrev rdC (c:List mC) (i:Int):mC:=rd_T80 c i
theorem cntC_zero (R:mC→Bool) (c:List mC):∀ n,cntC R c n=0 ↔ ∀ i,i<n→¬ R (rdC c (i:Int))=true
 | 0=>iff_of_true rfl (fun i hi=>absurd hi (Nat.not_lt_zero _))
 | n+1=>by
  have ih:=cntC_zero R c n
  simp only[cntC]
  constructor
  ·intro h i hi
   by_cases e:i=n
   ·subst e
    intro hr
    rw[if_pos hr] at h
    omega
   ·exact ih.mp (by omega) i (by omega)
  ·intro h
   rw[ih.mpr (fun i hi=>h i (by omega)),if_neg (h n (by omega))]
theorem cntC_one (R:mC→Bool) (c:List mC) {m:Nat} (hm:R (rdC c (m:Int))=true):∀ n,m<n→(cntC R c n=1 ↔ ∀ i,i<n→R (rdC c (i:Int))=true→i=m)
 | 0,h=>absurd h (Nat.not_lt_zero _)
 | n+1,h=>by
  simp only[cntC]
  by_cases e:m=n
  ·subst e
   rw[if_pos hm]
   have z:=cntC_zero R c m
   constructor
   ·intro a i hi hr
    apply Classical.byContradiction
    intro hn
    exact z.mp (by omega) i (by omega) hr
   ·intro a
    rw[z.mpr (fun i hi hr=>by have:=a i (by omega) hr;omega)]
  ·have ih:=cntC_one R c hm n (by omega)
   have pos:cntC R c n ≠ 0:=fun a=>(cntC_zero R c n).mp a m (by omega) hm
   constructor
   ·intro a i hi hr
    by_cases f:i=n
    ·subst f
     rw[if_pos hr] at a
     omega
    ·refine ih.mp ?_ i (by omega) hr
     by_cases g:R (rdC c (n:Int))=true
     ·rw[if_pos g] at a;omega
     ·rw[if_neg g] at a;omega
   ·intro a
    have g:¬ R (rdC c (n:Int))=true:=fun g=>by have:=a n (by omega) g;omega
    rw[if_neg g,ih.mpr (fun i hi hr=>a i (by omega) hr)]
def lastC (c:List mC) (a:Int):Nat→Int
 | 0 => -1
 | i+1=>if (rdC c (i:Int)).f0=a then (i:Int) else lastC c a i
theorem lastC_in (c:List mC) (a:Int):∀ n,-1≤lastC c a n∧lastC c a n<(n:Int)∧(0≤lastC c a n→(rdC c (lastC c a n)).f0=a)
 | 0=>by simp only[lastC];omega
 | n+1=>by
  obtain⟨h1,h2,h3⟩:=lastC_in c a n
  simp only[lastC]
  split
  ·rename_i h;exact⟨by omega,by omega,fun _=>h⟩
  ·exact⟨h1,by omega,h3⟩
def endC (a:Int) (x:mC):Bool:=decide (x.f0=a∧x.f4 ≥ 0)
def opnC (a:Int) (x:mC):Bool:=decide (x.f0=a∧x.f4<0)
def opEq (u v:mO):Bool:=((u.f0) == (v.f0) && (((u.f1) == (v.f1)) && ((u.f2) == (v.f2))))
def nowC (x:mT) (c:List mC) (l:Int):Prop:=0≤l∧(rdC c l).f4 = -1∧opEq (rdC c l).f1 (rd_T78 x.f0 x.f1)=true
def tcP (a:Int) (x:mT) (c:List mC):Prop:=(cntC (endC a) c c.length:Int)=x.f1∧(x.f2=false→cntC (opnC a) c c.length=0)∧(x.f2=true→cntC (opnC a) c c.length=1∧nowC x c (lastC c a c.length))
theorem tcP_spec (a:Int) (x:mT) (c:List mC):((∀ (i:Nat) y,c[i]? = some y→y.f0=a→y.f4<0→x.f2=true∧(i:Int)=lastC c a c.length)∧(cntC (endC a) c c.length:Int)=x.f1∧(x.f2=true→nowC x c (lastC c a c.length))) ↔ tcP a x c:=by
 obtain⟨l1,l2,l3⟩:=lastC_in c a c.length
 have conv:∀ (P:Nat→Prop),(∀ (i:Nat) y,c[i]? = some y→y.f0=a→y.f4<0→P i) ↔ (∀ i,i<c.length→opnC a (rdC c (i:Int))=true→P i):=fun P=>by
  constructor
  ·intro h i hi hr
   have er:rdC c (i:Int)=c[i]:=getD_get (List.getElem?_eq_getElem hi)
   rw[er] at hr
   unfold opnC at hr
   rw[decide_eq_true_iff] at hr
   exact h i _ (List.getElem?_eq_getElem hi) hr.1 hr.2
  ·intro h i y hy h1 h2
   have er:rdC c (i:Int)=y:=getD_get hy
   refine h i (List.getElem?_eq_some_iff.mp hy).1 ?_
   rw[er]
   unfold opnC
   rw[decide_eq_true_iff]
   exact⟨h1,h2⟩
 rw[conv]
 unfold tcP
 cases hf:x.f2
 ·constructor
  ·rintro⟨p1,p2,_⟩
   exact⟨p2,fun _=>(cntC_zero _ _ _).mpr (fun i hi hr=>Bool.noConfusion (p1 i hi hr).1),fun b=>Bool.noConfusion b⟩
  ·rintro⟨p1,p2,_⟩
   exact⟨fun i hi hr=>absurd hr ((cntC_zero _ _ _).mp (p2 rfl) i hi),p1,fun b=>Bool.noConfusion b⟩
 ·have key:nowC x c (lastC c a c.length)→(cntC (opnC a) c c.length=1 ↔ ∀ i,i<c.length→opnC a (rdC c (i:Int))=true→(i:Int)=lastC c a c.length):=fun hn=>by
   obtain⟨n1,n2,n3⟩:=hn
   obtain⟨m,hm⟩:∃ m:Nat,lastC c a c.length=(m:Int):=⟨(lastC c a c.length).toNat,by omega⟩
   have h0:=l3 n1
   rw[hm] at n2 h0 l2 ⊢
   have hr:opnC a (rdC c (m:Int))=true:=by
    unfold opnC
    rw[decide_eq_true_iff]
    exact⟨h0,by omega⟩
   rw[cntC_one _ _ hr _ (by omega)]
   exact⟨fun p i hi h=>by have:=p i hi h;omega,fun p i hi h=>by have:=p i hi h;omega⟩
  constructor
  ·rintro⟨p1,p2,p3⟩
   exact⟨p2,fun b=>Bool.noConfusion b,fun _=>⟨(key (p3 rfl)).mpr (fun i hi hr=>(p1 i hi hr).2),p3 rfl⟩⟩
  ·rintro⟨p1,_,p3⟩
   obtain⟨q1,q2⟩:=p3 rfl
   exact⟨fun i hi hr=>⟨rfl,(key q2).mp q1 i hi hr⟩,p1,fun _=>q2⟩
theorem Xbk (w:List mW) (d:List mD) (t:List mT) (tm:Int) (c:List mC) (o q:List Int) (s a:Int) (hc:c.length≤1048576):Ev (fun k=>X5.f k w d t tm c o q s a) (lastC c a c.length):=by
 have key:∀ n:Nat,n≤c.length→Ev (fun k=>X5.l0 k a ((n:Int) - 1) w d t tm c o q s) (lastC c a n):=by
  intro n
  induction n with
  | zero =>
   intro _
   refine Ev.shift ?_
   have c0:¬ ((0:Nat):Int) - 1 ≥ 0:=by omega
   simp only[X5.l0,c0,if_false,lastC]
   exact Ev.now _
  | succ n ih =>
   intro hn
   have e0:((n+1:Nat):Int) - 1=(n:Int):=by omega
   have c0:(n:Int) ≥ 0:=by omega
   have c1:(0:Int)≤(n:Int):=by omega
   have c2:(n:Int)<(c.length:Int):=by omega
   have e1:wrap64 ((n:Int) - 1)=(n:Int) - 1:=w64 (by omega) (by omega)
   rw[e0]
   refine Ev.shift ?_
   simp only[X5.l0,c0,c1,c2,if_true,lastC,e1]
   by_cases h:(rd_T80 c (n:Int)).f0=a
   ·rw[if_pos h]
    exact Ev.pos h (Ev.now _)
   ·rw[if_neg h]
    exact Ev.neg h (ih (by omega))
 have:=key c.length (Nat.le_refl _)
 have hww:wrap64 ((c.length:Int) - 1)=(c.length:Int) - 1:=w64 (by omega) (by omega)
 simp only[X5.f,hww]
 exact this
theorem Xa3 (w:List mW) (d:List mD) (t:List mT) (tm:Int) (c:List mC) (o q:List Int) (s:Int) (j:Nat) (x:mT) (hx:t[j]? = some x) (hn:thrN x) (hc:c.length≤1048576) :
  EvB (fun k=>XM.f k w d t tm c o q s (j:Int)) (tcP (j:Int) x c):=by
 have hjl:j<t.length:=(List.getElem?_eq_some_iff.mp hx).1
 have c0:(0:Int)≤(j:Int):=by omega
 have c1:(j:Int)<(t.length:Int):=by omega
 have er:rd_T108 t (j:Int)=x:=getD_get hx
 obtain⟨l1,l2,l3⟩:=lastC_in c (j:Int) c.length
 simp only[XM.f,c0,c1,if_true,er]
 refine EvB.at (Xbk w d t tm c o q s (j:Int) hc) ?_
 refine(EvB.each c (R:=fun i y=>y.f0=(j:Int)→y.f4<0→x.f2=true∧(i:Int)=lastC c (j:Int) c.length) (Q:=(cntC (endC (j:Int)) c c.length:Int)=x.f1∧(x.f2=true→nowC x c (lastC c (j:Int) c.length)))
  (g:=fun i k=>XM.l0 k (j:Int) (lastC c (j:Int) c.length) (cntC (endC (j:Int)) c i:Int) (i:Int) w d t tm c o q s x.f0 x.f1 x.f2 x.f3 x.f4) (fun _ => ?_) (fun i y hy hi hp hb => ?_) (fun i y hy hi hp hr r h => ?_)).iff (tcP_spec (j:Int) x c)
 ·refine EvB.shift ?_
  simp only[XM.l0,Int.lt_irrefl,if_false]
  refine EvB.ite (fun h1=>EvB.ite (fun h2=>EvB.ite (fun h3 => ?_) (fun h3=>EvB.no (Ev.now _) (fun p=>h3 (p.2 h2).1))) (fun h2=>EvB.yes (Ev.now _) ⟨h1,fun a=>absurd a h2⟩)) (fun h1=>EvB.no (Ev.now _) (fun p=>h1 p.1))
  refine EvB.pos h3 (EvB.pos (by omega) ?_)
  refine EvB.ite (fun h4 => ?_) (fun h4=>EvB.no (Ev.now _) (fun p=>h4 (p.2 h2).2.1))
  have:=hn.2.2.1 h2
  have:=hn.2.1
  refine EvB.pos (by omega) (EvB.pos (by omega) (EvB.now ?_))
  exact⟨fun a=>⟨h1,fun _=>⟨h3,h4,a⟩⟩,fun p=>(p.2 h2).2.2⟩
 ·have d0:(0:Int)≤(i:Int):=by omega
  have d1:(i:Int)<(c.length:Int):=by omega
  have ec:rd_T80 c (i:Int)=y:=getD_get hy
  have h1:y.f0=(j:Int):=Classical.byContradiction fun a=>hb fun b=>absurd b a
  have h2:y.f4<0:=Classical.byContradiction fun a=>hb fun _ b=>absurd b a
  have h3:¬ y.f4 ≥ 0:=by omega
  refine Ev.shift ?_
  simp only[XM.l0,d0,d1,if_true,ec]
  refine Ev.pos h1 (Ev.neg h3 ?_)
  by_cases h4:x.f2=true
  ·exact Ev.pos h4 (Ev.neg (fun a=>hb fun _ _=>⟨h4,a⟩) (Ev.now _))
  ·exact Ev.neg h4 (Ev.now _)
 ·have d0:(0:Int)≤(i:Int):=by omega
  have d1:(i:Int)<(c.length:Int):=by omega
  have ec:rd_T80 c (i:Int)=y:=getD_get hy
  have hle:=cntC_le (endC (j:Int)) c i
  refine Ev.shift ?_
  simp only[XM.l0,d0,d1,if_true,ec,succ64 hi (by omega)]
  simp only[cntC,ec] at h
  by_cases h1:y.f0=(j:Int)
  ·refine Ev.pos h1 ?_
   by_cases h2:y.f4 ≥ 0
   ·have e1:wrap64 ((cntC (endC (j:Int)) c i:Int)+1)=((cntC (endC (j:Int)) c i+1:Nat):Int):=by rw[w64 (by omega) (by omega)];omega
    have e2:endC (j:Int) y=true:=by unfold endC;rw[decide_eq_true_iff];exact⟨h1,h2⟩
    simp only[e2,if_true] at h
    simp only[e1]
    exact Ev.pos h2 h
   ·have e2:¬ endC (j:Int) y=true:=by unfold endC;rw[decide_eq_true_iff];exact fun a=>h2 a.2
    simp only[e2,if_false,Nat.add_zero] at h
    obtain⟨g1,g2⟩:=hr h1 (by omega)
    exact Ev.neg h2 (Ev.pos g1 (Ev.pos g2 h))
  ·have e2:¬ endC (j:Int) y=true:=by unfold endC;rw[decide_eq_true_iff];exact fun a=>h1 a.1
   simp only[e2,if_false,Nat.add_zero] at h
   exact Ev.neg h1 h
theorem Xa6 (w:List mW) (d:List mD) (t:List mT) (tm:Int) (c:List mC) (o q:List Int) (s:Int) (j:Nat) (x:mT) (hx:t[j]? = some x) (hn:thrN x) (hc:c.length≤1048576) :
  EvB (fun k=>XU.f k w d t tm c o q s (j:Int)) (tcP (j:Int) x c):=by
 have hjl:j<t.length:=(List.getElem?_eq_some_iff.mp hx).1
 have c0:(0:Int)≤(j:Int):=by omega
 have c1:(j:Int)<(t.length:Int):=by omega
 have er:rd_T108 t (j:Int)=x:=getD_get hx
 obtain⟨l1,l2,l3⟩:=lastC_in c (j:Int) c.length
 simp only[XU.f,c0,c1,if_true,er]
 refine(EvB.each c (R:=fun _ _=>True) (Q:=tcP (j:Int) x c)
  (g:=fun i k=>XU.l0 k (j:Int) (lastC c (j:Int) i) (cntC (endC (j:Int)) c i:Int) (cntC (opnC (j:Int)) c i:Int) c (c.length:Int) (i:Int) w d t tm c o q s x.f0 x.f1 x.f2 x.f3 x.f4) (fun _ => ?_) (fun i y hy hi hp hb=>absurd trivial hb) (fun i y hy hi hp hr r h => ?_)).iff ⟨fun a=>a.2,fun a=>⟨fun _ _ _=>trivial,a⟩⟩
 ·refine EvB.shift ?_
  simp only[XU.l0,Int.lt_irrefl,if_false]
  refine EvB.ite (fun h1=>EvB.ite (fun h2=>EvB.ite (fun h3=>EvB.ite (fun h5 => ?_) (fun h5=>EvB.no (Ev.now _) (fun p=>h5 (by have:=(p.2.2 h2).1;omega)))) (fun h3=>EvB.no (Ev.now _) (fun p=>h3 (p.2.2 h2).2.1))) (fun h2=>EvB.now ?_)) (fun h1=>EvB.no (Ev.now _) (fun p=>h1 p.1))
  ·refine EvB.pos h3 (EvB.pos (by omega) ?_)
   refine EvB.ite (fun h4 => ?_) (fun h4=>EvB.no (Ev.now _) (fun p=>h4 (p.2.2 h2).2.2.1))
   have:=hn.2.2.1 h2
   have:=hn.2.1
   refine EvB.pos (by omega) (EvB.pos (by omega) (EvB.now ?_))
   exact⟨fun a=>⟨h1,fun b=>absurd h2 (by rw[b];decide),fun _=>⟨by omega,h3,h4,a⟩⟩,fun p=>(p.2.2 h2).2.2.2⟩
  ·rw[beq_iff_eq]
   have h2':x.f2=false:=by simpa using h2
   exact⟨fun a=>⟨h1,fun _=>by omega,fun b=>absurd b h2⟩,fun p=>by have:=p.2.1 h2';omega⟩
 ·have d0:(0:Int)≤(i:Int):=by omega
  have d1:(i:Int)<(c.length:Int):=by omega
  have ec:rd_T80 c (i:Int)=y:=getD_get hy
  have hle:=cntC_le (endC (j:Int)) c i
  have hle2:=cntC_le (opnC (j:Int)) c i
  refine Ev.shift ?_
  simp only[XU.l0,d0,d1,if_true,ec,succ64 hi (by omega)]
  simp only[cntC,lastC,rdC,ec] at h
  by_cases h1:y.f0=(j:Int)
  ·simp only[h1,if_true] at h
   refine Ev.pos h1 ?_
   by_cases h2:y.f4 ≥ 0
   ·have e1:wrap64 ((cntC (endC (j:Int)) c i:Int)+1)=((cntC (endC (j:Int)) c i+1:Nat):Int):=by rw[w64 (by omega) (by omega)];omega
    have e2:endC (j:Int) y=true:=by unfold endC;rw[decide_eq_true_iff];exact⟨h1,h2⟩
    have e3:¬ opnC (j:Int) y=true:=by unfold opnC;rw[decide_eq_true_iff];exact fun a=>absurd a.2 (by omega)
    simp only[e2,e3,if_true,if_false,Nat.add_zero] at h
    simp only[e1]
    exact Ev.pos h2 h
   ·have e1:wrap64 ((cntC (opnC (j:Int)) c i:Int)+1)=((cntC (opnC (j:Int)) c i+1:Nat):Int):=by rw[w64 (by omega) (by omega)];omega
    have e2:¬ endC (j:Int) y=true:=by unfold endC;rw[decide_eq_true_iff];exact fun a=>h2 a.2
    have e3:opnC (j:Int) y=true:=by unfold opnC;rw[decide_eq_true_iff];exact⟨h1,by omega⟩
    simp only[e2,e3,if_true,if_false,Nat.add_zero] at h
    simp only[e1]
    exact Ev.neg h2 h
  ·have e2:¬ endC (j:Int) y=true:=by unfold endC;rw[decide_eq_true_iff];exact fun a=>h1 a.1
   have e3:¬ opnC (j:Int) y=true:=by unfold opnC;rw[decide_eq_true_iff];exact fun a=>h1 a.1
   simp only[h1,e2,e3,if_false,Nat.add_zero] at h
   exact Ev.neg h1 h
end Go.Proofs.YthejoblnfpaojaaGreat.P
