/- A part of the proof of the law FnExactJudgeWords: texts of this seat, merged (words, printed functions of the program, plain lemmas). Conditions: none of its own. -/
import Derived.Test.YtmljebgideecjaaGreatP2kFnExactJudgeWords21
import Derived.Test.YtmljebgideecjaaGreatP2kFnExactJudgeWords24
import Derived.Test.YtmljebgideecjaaGreatP2kFnExactJudgeWords25
set_option linter.unusedSimpArgs false
set_option linter.unusedVariables false
set_option maxHeartbeats 8000000
set_option maxRecDepth 100000
namespace Go.Proofs.YtmljebgideecjaaGreat.P2
open Go.RowKit Go.Proofs.YtmljebgideecjaaGreatW.PrintWords Go.Proofs.YtmljebgideecjaaGreatW.PrintLast Go.Proofs.YtmljebgideecjaaGreatZ
def dup (h:List Int) (i:Nat):Prop:=∃ j,j<i∧rd h (j:Int)=rd h (i:Int)
def oneOk (h:List Int) (i:Nat):Prop:=rd h (i:Int)=0 ∨ (1≤rd h (i:Int)∧rd h (i:Int)≤6∧¬ dup h i)
def allOk (h:List Int) (i:Nat):Prop:=∀ j,i≤j→j<h.length→oneOk h j
theorem allOk_step {h:List Int} {i:Nat} (hi:i<h.length):allOk h i ↔ (oneOk h i∧allOk h (i+1)):=by
 constructor
 ·intro a;exact⟨a i (Nat.le_refl _) hi,fun j h1 h2=>a j (by omega) h2⟩
 ·intro ⟨a,b⟩ j h1 h2
  by_cases e:j=i
  ·rw[e];exact a
  ·exact b j (by omega) h2
noncomputable def okB (h:List Int) (i:Nat) (s:Int):Bool:=@decide (allOk h i∧h.length=4∧0≤s∧s≤5) (Classical.propDecidable _)
theorem okB_iff {h:List Int} {i:Nat} {s:Int} : okB h i s=true ↔ (allOk h i∧h.length=4∧0≤s∧s≤5):=by
 unfold okB
 exact @decide_eq_true_iff _ (Classical.propDecidable _)
theorem okB_false {h:List Int} {i:Nat} {s:Int} (hi:i<h.length) (hn:¬ oneOk h i):okB h i s=false:=by
 rw[Bool.eq_false_iff]
 intro a
 exact hn ((allOk_step hi).mp (okB_iff.mp a).1).1
theorem okB_next {h:List Int} {i:Nat} {s:Int} (hi:i<h.length) (hy:oneOk h i):okB h i s=okB h (i+1) s:=by
 rw[Bool.eq_iff_iff,okB_iff,okB_iff,allOk_step hi]
 exact⟨fun a=>⟨a.1.2,a.2⟩,fun a=>⟨⟨hy,a.1⟩,a.2⟩⟩
theorem okB_end (h:List Int) (s:Int):okB h h.length s=decide (h.length=4∧0≤s∧s≤5):=by
 rw[Bool.eq_iff_iff,okB_iff,decide_eq_true_iff]
 have:allOk h h.length:=fun j h1 h2=>absurd h2 (by omega)
 exact⟨fun a=>a.2,fun a=>⟨this,a⟩⟩
theorem key_ev (h:List Int) (hl:h.length≤9223372036854775807) (s v:Int):∀ p:Nat,p≤h.length→∃ r:Int,Ev (fun k=>Xp.l0 k v (p:Int) h s) r ∧
  ((r = -1∧∀ j:Nat,p≤j→j<h.length→rd h (j:Int) ≠ v) ∨ ∃ q:Nat,r=(q:Int)∧p≤q∧q<h.length∧rd h (q:Int)=v∧∀ j:Nat,p≤j→j<q→rd h (j:Int) ≠ v):=by
 refine back ?_ fun p hp ih => ?_
 ·refine⟨-1,Ev.shift ?_,Or.inl ⟨rfl,fun j h1 h2=>absurd h2 (by omega)⟩⟩
  simp only[Xp.l0,Int.lt_irrefl,if_false]
  exact Ev.now _
 ·have c0:(0:Int)≤(p:Int):=by omega
  have c1:(p:Int)<(h.length:Int):=by omega
  by_cases e:rd h (p:Int)=v
  ·refine⟨(p:Int),Ev.shift ?_,Or.inr ⟨p,rfl,Nat.le_refl _,hp,e,fun j h1 h2=>absurd h2 (by omega)⟩⟩
   simp only[Xp.l0,c0,c1,e,if_true]
   exact Ev.now _
  ·obtain⟨r,h1,h2⟩:=ih
   refine⟨r,Ev.shift ?_,?_⟩
   ·simp only[Xp.l0,c0,c1,e,if_true,if_false,succ64 hp hl]
    exact h1
   ·rcases h2 with⟨a,b⟩ | ⟨q,a,b,c,d,f⟩
    ·refine Or.inl ⟨a,fun j h3 h4 => ?_⟩
     by_cases ej:j=p
     ·rw[ej];exact e
     ·exact b j (by omega) h4
    ·refine Or.inr ⟨q,a,by omega,c,d,fun j h3 h4 => ?_⟩
     by_cases ej:j=p
     ·rw[ej];exact e
     ·exact f j (by omega) h4
theorem index_ev (x:List Int) (hl:x.length≤9223372036854775807) (v:Int):∀ p:Nat,p≤x.length→∃ r:Int,Ev (fun k=>slices_Index_int_int.l0 k x v (x.length:Int) (p:Int)) r ∧
  (r ≥ 0 ↔ ∃ j:Nat,p≤j∧j<x.length∧rd x (j:Int)=v):=by
 refine back ?_ fun p hp ih => ?_
 ·refine⟨-1,Ev.shift ?_,?_⟩
  ·simp only[slices_Index_int_int.l0,Int.lt_irrefl,if_false]
   exact Ev.now _
  ·constructor
   ·intro h;omega
   ·intro ⟨j,h1,h2,_⟩;omega
 ·have c0:(0:Int)≤(p:Int):=by omega
  have c1:(p:Int)<(x.length:Int):=by omega
  by_cases e:v=rd x (p:Int)
  ·refine⟨(p:Int),Ev.shift ?_,?_⟩
   ·simp only[slices_Index_int_int.l0,c0,c1,if_true]
    refine Ev.pos e (Ev.now _)
   ·exact⟨fun _=>⟨p,Nat.le_refl _,hp,e.symm⟩,fun _=>c0⟩
  ·obtain⟨r,h1,h2⟩:=ih
   refine⟨r,Ev.shift ?_,?_⟩
   ·simp only[slices_Index_int_int.l0,c0,c1,if_true,succ64 hp hl]
    refine Ev.neg e h1
   ·rw[h2]
    constructor
    ·intro ⟨j,h3,h4,h5⟩;exact⟨j,by omega,h4,h5⟩
    ·intro ⟨j,h3,h4,h5⟩
     refine⟨j,?_,h4,h5⟩
     by_cases ej:j=p
     ·rw[ej] at h5;exact absurd h5.symm e
     ·omega
theorem rd_take (h:List Int) {i j:Nat} (hj:j<i) (hl:j<h.length):rd (h.take i) (j:Int)=rd h (j:Int):=by
 have h1:(h.take i)[j]? = some h[j]:=by rw[List.getElem?_take,if_pos hj];exact List.getElem?_eq_getElem hl
 rw[rd_get h1,rd_get (List.getElem?_eq_getElem hl)]
theorem Xby (h:List Int) (s:Int) (hl:h.length≤1048576):Ev (fun k=>Xm.f k h s) (okB h 0 s):=by
 simp only[Xm.f]
 refine back (n:=h.length) (Q:=fun i=>Ev (fun k=>Xm.l0 k (i:Int) h s) (okB h i s)) ?_ (fun i hi ih => ?_) 0 (Nat.zero_le _)
 ·refine Ev.shift ?_
  rw[okB_end]
  simp only[Xm.l0,Int.lt_irrefl,if_false,Xa.f]
  by_cases h4:h.length=4
  ·have c:(h.length:Int)=4:=by omega
   simp only[c,h4,if_true,true_and]
   by_cases h0:s ≥ 0
   ·simp only[h0,if_true,Option.bind_some]
    exact Ev.val (by first | (simp;done) | (simp;omega))
   ·simp only[h0,if_false,Option.bind_some]
    exact Ev.val (by first | (simp;done) | (simp;omega))
  ·have c:¬ (h.length:Int)=4:=by omega
   simp only[c,h4,if_false,false_and,decide_false]
   exact Ev.now _
 ·have c0:(0:Int)≤(i:Int):=by omega
  have c1:(i:Int)<(h.length:Int):=by omega
  refine Ev.shift ?_
  simp only[Xm.l0,c0,c1,if_true,succ64 hi (by omega),XB.f,Xa.f]
  by_cases hz:rd h (i:Int)=0
  ·rw[okB_next hi (Or.inl hz)]
   simp only[hz,if_true]
   exact ih
  ·simp only[hz,if_false]
   by_cases h1:rd h (i:Int) ≥ 1
   ·by_cases h6:rd h (i:Int)≤6
    ·simp only[h1,h6,if_true,decide_true,Option.bind_some]
     obtain⟨r,e1,e2⟩:=key_ev h (by omega) s (rd h (i:Int)) 0 (Nat.zero_le _)
     have e1':Ev (fun k=>Xp.f k h s (rd h (i:Int))) r:=e1
     refine Ev.bind e1' ?_
     by_cases hr:r=(i:Int)
     ·have hd:¬ dup h i:=by
       rintro⟨j,hj1,hj2⟩
       rcases e2 with⟨a,b⟩ | ⟨q,a,b,c,d,f⟩
       ·exact b j (Nat.zero_le _) (by omega) hj2
       ·exact f j (Nat.zero_le _) (by omega) hj2
      rw[okB_next hi (Or.inr ⟨h1,h6,hd⟩)]
      simp only[hr,if_true]
      exact ih
     ·have hd:dup h i:=by
       rcases e2 with⟨a,b⟩ | ⟨q,a,b,c,d,f⟩
       ·exact absurd rfl (b i (Nat.zero_le _) hi)
       ·refine⟨q,?_,d⟩
        apply Classical.byContradiction
        intro hn
        by_cases hq:i<q
        ·exact f i (Nat.zero_le _) hq rfl
        ·exact hr (by omega)
      rw[okB_false hi (fun a=>a.elim hz (fun a=>a.2.2 hd))]
      simp only[hr,if_false]
      exact Ev.now _
    ·rw[okB_false hi (fun a=>a.elim hz (fun a=>h6 a.2.1))]
     simp only[h1,h6,if_true,decide_false,Option.bind_some,Bool.false_eq_true,if_false]
     exact Ev.now _
   ·rw[okB_false hi (fun a=>a.elim hz (fun a=>h1 a.1))]
    simp only[h1,Option.bind_some,Bool.false_eq_true,if_false]
    exact Ev.now _
theorem Xbz (h:List Int) (s:Int) (hl:h.length≤1048576):Ev (fun k=>XV.f k h s) (okB h 0 s):=by
 simp only[XV.f]
 refine back (n:=h.length) (Q:=fun i=>Ev (fun k=>XV.l0 k h (h.length:Int) (i:Int) h s) (okB h i s)) ?_ (fun i hi ih => ?_) 0 (Nat.zero_le _)
 ·refine Ev.shift ?_
  rw[okB_end]
  simp only[XV.l0,Int.lt_irrefl,if_false,Xd.f]
  by_cases h4:h.length=4
  ·have c:(h.length:Int)=4:=by omega
   simp only[c,h4,if_true,true_and]
   by_cases h0:s ≥ 0
   ·simp only[h0,if_true,Option.bind_some]
    exact Ev.val (by first | (simp;done) | (simp;omega))
   ·simp only[h0,if_false,Option.bind_some]
    exact Ev.val (by first | (simp;done) | (simp;omega))
  ·have c:¬ (h.length:Int)=4:=by omega
   simp only[c,h4,if_false,false_and,decide_false]
   exact Ev.now _
 ·have c0:(0:Int)≤(i:Int):=by omega
  have c1:(i:Int)<(h.length:Int):=by omega
  have c2:(i:Int)≤(h.length:Int):=by omega
  refine Ev.shift ?_
  simp only[XV.l0,c0,c1,c2,if_true,succ64 hi (by omega),XM.f,Xd.f,Int.toNat_natCast]
  by_cases hz:rd h (i:Int)=0
  ·rw[okB_next hi (Or.inl hz)]
   simp only[hz,if_true]
   exact ih
  ·simp only[hz,if_false]
   by_cases h1:rd h (i:Int) ≥ 1
   ·by_cases h6:rd h (i:Int)≤6
    ·simp only[h1,h6,if_true,decide_true,Option.bind_some]
     obtain⟨r,e1,e2⟩:=index_ev (h.take i) (by rw[List.length_take];omega) (rd h (i:Int)) 0 (Nat.zero_le _)
     have e1':Ev (fun k=>slices_Contains_int_int.f k (h.take i) (rd h (i:Int))) (decide (r ≥ 0)):=by
      simp only[slices_Contains_int_int.f]
      exact Ev.bind (show Ev (fun k=>slices_Index_int_int.f k (h.take i) (rd h (i:Int))) r from e1) (Ev.now _)
     refine Ev.bind e1' ?_
     have hd:r ≥ 0 ↔ dup h i:=by
      rw[e2]
      constructor
      ·intro ⟨j,_,h3,h4⟩
       rw[List.length_take] at h3
       exact⟨j,by omega,by rw[rd_take h (by omega) (by omega)] at h4;exact h4⟩
      ·intro ⟨j,h3,h4⟩
       exact⟨j,Nat.zero_le _,by rw[List.length_take];omega,by rw[rd_take h h3 (by omega)];exact h4⟩
     by_cases hr:r ≥ 0
     ·rw[okB_false hi (fun a=>a.elim hz (fun a=>a.2.2 (hd.mp hr)))]
      simp only[hr,decide_true,if_true]
      exact Ev.now _
     ·rw[okB_next hi (Or.inr ⟨h1,h6,fun a=>hr (hd.mpr a)⟩)]
      simp only[hr,decide_false,Bool.false_eq_true,if_false]
      exact ih
    ·rw[okB_false hi (fun a=>a.elim hz (fun a=>h6 a.2.1))]
     simp only[h1,h6,if_true,decide_false,Option.bind_some,Bool.false_eq_true,if_false]
     exact Ev.now _
   ·rw[okB_false hi (fun a=>a.elim hz (fun a=>h1 a.1))]
    simp only[h1,Option.bind_some,Bool.false_eq_true,if_false]
    exact Ev.now _
theorem okB_elim {h:List Int} {s:Int} (a:okB h 0 s=true):h.length=4∧0≤s∧s≤5∧∀ i:Nat,i<4→rd h (i:Int)=0 ∨ (1≤rd h (i:Int)∧rd h (i:Int)≤6):=by
 have b:=okB_iff.mp a
 refine⟨b.2.1,b.2.2.1,b.2.2.2,fun i hi => ?_⟩
 rcases b.1 i (Nat.zero_le _) (by omega) with c | c
 ·exact Or.inl c
 ·exact Or.inr ⟨c.1,c.2.1⟩
end Go.Proofs.YtmljebgideecjaaGreat.P2
namespace Go.Proofs.YtmljebgideecjaaGreat.P2
open Go.Proofs.YtmljebgideecjaaGreatZ Go.RowKit Go.Proofs.YtmljebgideecjaaGreatW.PrintWords Go.Proofs.YtmljebgideecjaaGreatW.PrintLast Go.Proofs.YtmljebgideecjaaGreatW.PrintMore
attribute [local go_sem] max2_int min2_int max_two min_two max_three min_three max_four min_four   -- for this text's walks alone
def Xa9.f (k:Nat) (l0_0:List (S176)) (l0_1:List (S155)) (a1:Int):Option (Int):=(XaZ.f l0_0 a1).bind fun t102=>(if t102<0 then (some (-1)) else ((Xaa.f k l0_1 t102).bind fun t103=>(if t103<0 then (some (-1)) else (some t103))))
theorem Xa9.calls (k:Nat) (A0_0:Option Addr) (c0_0:Nat) (l0_0:List (S176)) (A0_1:Option Addr) (c0_1:Nat) (l0_1:List (S155)) (a1:Int) (r:Int) (w:World) (h0_0:Rw k176 w A0_0 c0_0 l0_0) (h0_1:Rw k155 w A0_1 c0_1 l0_1) (H:Xa9.f k l0_0 l0_1 a1=some r) :
  Calls Tryz.prog 38 #[.agg #[.slice A0_0 l0_0.length c0_0,.slice A0_1 l0_1.length c0_1],.int .i64 a1] w fun e w'=>e = .returned (.int .i64 r)∧Below w.heap.size w w':=by
 have hu25:=Tryz.underlying25
 obtain⟨HR0_0,HC0_0⟩:=h0_0
 obtain⟨HR0_1,HC0_1⟩:=h0_1
 have HB:=aM (Below.refl w.heap.size w)
 unfold Xa9.f at H
 replace H:=bE H;obtain⟨t102,A3,H⟩:=H
 go_enter Tryz.func38,Tryz.ntmps38
 go_wp2_with (first | (refine boxE 2 #[.slice A0_0 l0_0.length c0_0,.slice A0_1 l0_1.length c0_1] 25 ?_;intro gbz1 hg wz1 hbox hb;have BKz1:=aM (hbox);have GWz1:=aG hg HB;replace HB:=aS HB hb;clear hb hbox hg;have hczz1:=cZ2 BKz1.out) | (refine gD 88 8 Tryz.func88 (XaZ.calls _ _ _ _ _ _ (rW HR0_0 HB HC0_0) A3.out) ?_;intro nd;refine Stop.out ?_))
 refine⟨?_⟩
 revert H;refine iP ?_ ?_<;>intro c4b0 H
 ·obtain rfl:=sI H
  exact fS
 replace H:=bE H;obtain⟨t103,A7,H⟩:=H
 go_wp2_with (refine gB 89 14 Tryz.func89 (Xaa.calls _ _ _ _ _ _ _ (rW HR0_1 HB HC0_1) A7.out) ?_;intro wz2 hb;replace BKz1:=aB BKz1 hb;replace HB:=aS HB hb;clear hb;refine Stop.out ?_)
 refine⟨?_⟩
 revert H;refine iP ?_ ?_<;>intro c8b0 H
 ·obtain rfl:=sI H
  exact fS
 exact fR
def Xbp.f (k:Nat) (l0_0:List (S176)) (l0_1:List (S155)):Option ((List (S140)) × (List (S162))):=(X5.f k l0_0).bind fun t104=>((Xab.f k l0_1).bind fun t107=>(some (t104,t107)))
theorem Xbp.calls (k:Nat) (A0_0:Option Addr) (c0_0:Nat) (l0_0:List (S176)) (A0_1:Option Addr) (c0_1:Nat) (l0_1:List (S155)) (r1:List (S140)) (r2:List (S162)) (w:World) (h0_0:Rw k176 w A0_0 c0_0 l0_0) (h0_1:Rw k155 w A0_1 c0_1 l0_1) (h:Xbp.f k l0_0 l0_1=some (r1,r2)) :
  Calls Tryz.prog 44 #[.agg #[.slice A0_0 l0_0.length c0_0,.slice A0_1 l0_1.length c0_1]] w fun e w'=>∃ v0_ v1_:Value,e = .returned (.agg #[v0_,v1_])∧Kd.R k140 140 w' w.heap.size (fun _=>True) v0_ r1∧Kd.S k162 162 w' w.heap.size (fun _=>True) v1_ r2∧Below w.heap.size w w':=by
 have hu25:=Tryz.underlying25
 have hu38:=Tryz.underlying38
 obtain⟨HR0_0,HC0_0⟩:=h0_0
 obtain⟨HR0_1,HC0_1⟩:=h0_1
 have HB:=aM (Below.refl w.heap.size w)
 have H:=h
 unfold Xbp.f at H
 clear h
 replace H:=bE H;obtain⟨t104,A2,H⟩:=H
 replace H:=bE H;obtain⟨t107,A3,H⟩:=H
 simp only[Option.some.injEq,Prod.mk.injEq] at H
 obtain⟨rfl,rfl⟩:=H
 go_enter Tryz.func44,Tryz.ntmps44
 go_wp2_with (first | (refine boxE 1 #[.slice A0_0 l0_0.length c0_0,.slice A0_1 l0_1.length c0_1] 25 ?_;intro gbz1 hg wz1 hbox hb;have BKz1:=aM (hbox);have GWz1:=aG hg HB;replace HB:=aS HB hb;clear hb hbox hg) | (refine boxE 2 #[.slice none 0 0,.slice none 0 0] 38 ?_;intro gbz2 hg wz2 hbox hb;have BKz2:=aM (hbox);have GWz2:=aG hg HB;have NBz1:=aL hg BKz1;have NBz2:=aR hg BKz1;replace BKz1:=aB BKz1 hb;replace HB:=aS HB hb;clear hb hbox hg) | (refine boxE 3 #[.slice none 0 0,.slice none 0 0] 38 ?_;intro gbz3 hg wz3 hbox hb;have BKz3:=aM (hbox);have GWz3:=aG hg HB;have NBz3:=aL hg BKz1;have NBz4:=aR hg BKz1;have NBz5:=aL hg BKz2;have NBz6:=aR hg BKz2;replace BKz1:=aB BKz1 hb;replace BKz2:=aB BKz2 hb;replace HB:=aS HB hb;clear hb hbox hg;have hnbz1:=nB NBz1 NBz2;have hnbz2:=nB NBz3 NBz4;have hczz1:=cZ2 BKz1.out) | (refine goesM 97 6 Tryz.func97 #[.slice A0_0 l0_0.length c0_0] ?_;refine(X5.calls _ _ _ _ _ _ (rW HR0_0 HB HC0_0) A2.out).mono ?_;rintro e wz4 ⟨vz1,rfl,hoz1,hb⟩;refine⟨_,rfl,?_⟩;have HOz1:=aM (Kd.R_lower hoz1 (below_size (hX HB.out)));replace BKz1:=aB BKz1 hb;replace BKz2:=aB BKz2 hb;replace BKz3:=aB BKz3 hb;replace HB:=aS HB hb;clear hb hoz1;obtain⟨Aoz1,coz1,eoz1⟩:=Kd.R_slice HOz1.out;subst eoz1;have hnbz3:=nB NBz6 NBz5;have hczz3:=cZ2 BKz3.out;have hczz5:=cZ2 BKz1.out) | (refine goesM 98 10 Tryz.func98 #[.slice A0_1 l0_1.length c0_1] ?_;refine(Xab.calls k _ _ l0_1 t107 _ (rW HR0_1 HB HC0_1) A3.out).mono ?_;rintro e wz5 ⟨vz2,rfl,hoz1,hb⟩;refine⟨_,rfl,?_⟩;have HOz2:=aM (Kd.S_lower hoz1 (below_size (hX HB.out)));replace HOz1:=aM (Kd.R_below (rF HOz1.out BKz3.out) hb);replace BKz1:=aF BKz1 hb;replace BKz2:=aF BKz2 hb;replace BKz3:=aM (blk_below (g:=gbz3) (o:=.cells #[.slice Aoz1 t104.length coz1,.slice none 0 0] 38 (0,0)) (bP BKz3.out) hb);replace HB:=aS HB hb;clear hb hoz1;obtain⟨Aoz2,coz2,eoz2⟩:=Kd.S_slice HOz2.out;subst eoz2;have hczz7:=cZ2 BKz3.out;have hczz9:=cZ2 BKz2.out))
 refine bodyPost_ret (results_cell_row rfl _ _ gbz2 38 #[.slice Aoz1 t104.length coz1,.slice Aoz2 t107.length coz2] (0,0) _ rfl (bP BKz2.out) Tryz.underlying38 rfl (by kernel_rfl)) rfl ?_
 exact⟨_,_,rE,(Kd.R_mono (rF2 HOz1.out BKz3.out BKz2.out) (fun _ hk=>trivial)),by (with_reducible repeat (first | apply Kd.S_alloc | apply Kd.S_drewN | apply Kd.S_drew));exact Kd.S_mono (sF2 HOz2.out BKz3.out BKz2.out) (fun _ hk=>trivial),(hX HB.out)⟩
def Xba.f (k:Nat) (l0_0:List (S140)) (l0_1:List (S162)) (l1_0:List (S140)) (l1_1:List (S162)):Option (Bool):=(Xw.f k l0_0 l1_0).bind fun t103=>(if t103=true then ((Xz.f k l0_1 l1_1).bind fun t104=>(if t104=true then (some true) else (some false))) else (some false))
theorem Xba.calls (k:Nat) (A0_0:Option Addr) (c0_0:Nat) (l0_0:List (S140)) (A0_1:Option Addr) (c0_1:Nat) (l0_1:List (S162)) (A1_0:Option Addr) (c1_0:Nat) (l1_0:List (S140)) (A1_1:Option Addr) (c1_1:Nat) (l1_1:List (S162)) (r:Bool) (w:World) (h0_0:Rw k140 w A0_0 c0_0 l0_0) (h0_1:Rw k162 w A0_1 c0_1 l0_1) (h1_0:Rw k140 w A1_0 c1_0 l1_0) (h1_1:Rw k162 w A1_1 c1_1 l1_1) (H:Xba.f k l0_0 l0_1 l1_0 l1_1=some r) :
  Calls Tryz.prog 50 #[.agg #[.slice A0_0 l0_0.length c0_0,.slice A0_1 l0_1.length c0_1],.agg #[.slice A1_0 l1_0.length c1_0,.slice A1_1 l1_1.length c1_1]] w fun e w'=>e = .returned (.bool r)∧Below w.heap.size w w':=by
 have hu38:=Tryz.underlying38
 obtain⟨HR0_0,HC0_0⟩:=h0_0
 obtain⟨HR0_1,HC0_1⟩:=h0_1
 obtain⟨HR1_0,HC1_0⟩:=h1_0
 obtain⟨HR1_1,HC1_1⟩:=h1_1
 have HB:=aM (Below.refl w.heap.size w)
 unfold Xba.f at H
 replace H:=bE H;obtain⟨t103,A3,H⟩:=H
 go_enter Tryz.func50,Tryz.ntmps50
 go_wp2_with (first | (refine boxE 2 #[.slice A0_0 l0_0.length c0_0,.slice A0_1 l0_1.length c0_1] 38 ?_;intro gbz1 hg wz1 hbox hb;have BKz1:=aM (hbox);have GWz1:=aG hg HB;replace HB:=aS HB hb;clear hb hbox hg) | (refine boxE 3 #[.slice A1_0 l1_0.length c1_0,.slice A1_1 l1_1.length c1_1] 38 ?_;intro gbz2 hg wz2 hbox hb;have BKz2:=aM (hbox);have GWz2:=aG hg HB;have NBz1:=aL hg BKz1;have NBz2:=aR hg BKz1;replace BKz1:=aB BKz1 hb;replace HB:=aS HB hb;clear hb hbox hg;have hnbz1:=nB NBz1 NBz2;have hczz1:=cZ2 BKz1.out;have hczz3:=cZ2 BKz2.out;refine Stop.out ?_))
 refine⟨?_⟩
 cases t103
 case false =>
  rw[if_neg nft] at H
  obtain rfl:=sI H
  go_wp2_with (refine gB 109 9 Tryz.func109 (Xw.calls _ _ _ _ _ _ _ _ _ (rW HR0_0 HB HC0_0) (rW HR1_0 HB HC1_0) A3.out) ?_;intro wz3 hb;replace BKz1:=aB BKz1 hb;replace BKz2:=aB BKz2 hb;replace HB:=aS HB hb;clear hb)
  go_ret
  exact⟨rE,(hX HB.out)⟩
 rw[if_pos rfl] at H
 replace H:=bE H;obtain⟨t104,A5,H⟩:=H
 go_wp2_with (refine gB 109 9 Tryz.func109 (Xw.calls _ _ _ _ _ _ _ _ _ (rW HR0_0 HB HC0_0) (rW HR1_0 HB HC1_0) A3.out) ?_;intro wz3 hb;replace BKz1:=aB BKz1 hb;replace BKz2:=aB BKz2 hb;replace HB:=aS HB hb;clear hb;have hczz5:=cZ2 BKz1.out;have hczz7:=cZ2 BKz2.out;refine Stop.out ?_)
 refine⟨?_⟩
 cases t104
 case true =>
  rw[if_pos rfl] at H
  obtain rfl:=sI H
  go_wp2_with (refine gB 110 15 Tryz.func110 (Xz.calls _ _ _ _ _ _ _ _ _ (rW HR0_1 HB HC0_1) (rW HR1_1 HB HC1_1) A5.out) ?_;intro wz4 hb;replace BKz1:=aB BKz1 hb;replace BKz2:=aB BKz2 hb;replace HB:=aS HB hb;clear hb)
  go_ret
  exact⟨rE,(hX HB.out)⟩
 rw[if_neg nft] at H
 obtain rfl:=sI H
 go_wp2_with (refine gB 110 15 Tryz.func110 (Xz.calls _ _ _ _ _ _ _ _ _ (rW HR0_1 HB HC0_1) (rW HR1_1 HB HC1_1) A5.out) ?_;intro wz4 hb;replace BKz1:=aB BKz1 hb;replace BKz2:=aB BKz2 hb;replace HB:=aS HB hb;clear hb)
 go_ret
 exact⟨rE,(hX HB.out)⟩
end Go.Proofs.YtmljebgideecjaaGreat.P2
