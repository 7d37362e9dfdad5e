/- A part of the proof of the law FnStarts: texts of this seat, merged (words, printed functions of the program, plain lemmas). Conditions: none of its own. -/
import Derived.Laws.BitsLemmas
import Derived.Test.YthejoblnfpaojaaGreatPkFnStarts16
import Derived.Test.YthejoblnfpaojaaGreatPkFnStarts19
import Derived.Test.YthejoblnfpaojaaGreatPkFnStarts21
set_option linter.unusedSimpArgs false
set_option linter.unusedVariables false
set_option maxHeartbeats 8000000
set_option maxRecDepth 100000
namespace Go.Proofs.YthejoblnfpaojaaGreat.P
open Go.RowKit Go.Proofs.YthejoblnfpaojaaGreatW.PrintWords Go.Proofs.YthejoblnfpaojaaGreatW.PrintLast Go.Proofs.YthejoblnfpaojaaGreatZ
def dup (h:List Int) (i:Nat):Prop:=∃ j,j<i∧rd h (j:Int)=rd h (i:Int)
def oneOk (h:List Int) (i:Nat):Prop:=rd h (i:Int)=0 ∨ (1≤rd h (i:Int)∧rd h (i:Int)≤6∧¬ dup h i)
def allOk (h:List Int) (i:Nat):Prop:=∀ j,i≤j→j<h.length→oneOk h j
theorem allOk_step {h:List Int} {i:Nat} (hi:i<h.length):allOk h i ↔ (oneOk h i∧allOk h (i+1)):=by
 constructor
 ·intro a;exact⟨a i (Nat.le_refl _) hi,fun j h1 h2=>a j (by omega) h2⟩
 ·intro ⟨a,b⟩ j h1 h2
  by_cases e:j=i
  ·rw[e];exact a
  ·exact b j (by omega) h2
noncomputable def okB (h:List Int) (i:Nat) (s:Int):Bool:=@decide (allOk h i∧h.length=4∧0≤s∧s≤5) (Classical.propDecidable _)
theorem okB_iff {h:List Int} {i:Nat} {s:Int} : okB h i s=true ↔ (allOk h i∧h.length=4∧0≤s∧s≤5):=by
 unfold okB
 exact @decide_eq_true_iff _ (Classical.propDecidable _)
theorem okB_false {h:List Int} {i:Nat} {s:Int} (hi:i<h.length) (hn:¬ oneOk h i):okB h i s=false:=by
 rw[Bool.eq_false_iff]
 intro a
 exact hn ((allOk_step hi).mp (okB_iff.mp a).1).1
theorem okB_next {h:List Int} {i:Nat} {s:Int} (hi:i<h.length) (hy:oneOk h i):okB h i s=okB h (i+1) s:=by
 rw[Bool.eq_iff_iff,okB_iff,okB_iff,allOk_step hi]
 exact⟨fun a=>⟨a.1.2,a.2⟩,fun a=>⟨⟨hy,a.1⟩,a.2⟩⟩
theorem okB_end (h:List Int) (s:Int):okB h h.length s=decide (h.length=4∧0≤s∧s≤5):=by
 rw[Bool.eq_iff_iff,okB_iff,decide_eq_true_iff]
 have:allOk h h.length:=fun j h1 h2=>absurd h2 (by omega)
 exact⟨fun a=>a.2,fun a=>⟨this,a⟩⟩
theorem key_ev (h:List Int) (hl:h.length≤9223372036854775807) (s v:Int):∀ p:Nat,p≤h.length→∃ r:Int,Ev (fun k=>XX.l0 k v (p:Int) h s) r ∧
  ((r = -1∧∀ j:Nat,p≤j→j<h.length→rd h (j:Int) ≠ v) ∨ ∃ q:Nat,r=(q:Int)∧p≤q∧q<h.length∧rd h (q:Int)=v∧∀ j:Nat,p≤j→j<q→rd h (j:Int) ≠ v):=by
 refine back ?_ fun p hp ih => ?_
 ·refine⟨-1,Ev.shift ?_,Or.inl ⟨rfl,fun j h1 h2=>absurd h2 (by omega)⟩⟩
  simp only[XX.l0,Int.lt_irrefl,if_false]
  exact Ev.now _
 ·have c0:(0:Int)≤(p:Int):=by omega
  have c1:(p:Int)<(h.length:Int):=by omega
  by_cases e:rd h (p:Int)=v
  ·refine⟨(p:Int),Ev.shift ?_,Or.inr ⟨p,rfl,Nat.le_refl _,hp,e,fun j h1 h2=>absurd h2 (by omega)⟩⟩
   simp only[XX.l0,c0,c1,e,if_true]
   exact Ev.now _
  ·obtain⟨r,h1,h2⟩:=ih
   refine⟨r,Ev.shift ?_,?_⟩
   ·simp only[XX.l0,c0,c1,e,if_true,if_false,succ64 hp hl]
    exact h1
   ·rcases h2 with⟨a,b⟩ | ⟨q,a,b,c,d,f⟩
    ·refine Or.inl ⟨a,fun j h3 h4 => ?_⟩
     by_cases ej:j=p
     ·rw[ej];exact e
     ·exact b j (by omega) h4
    ·refine Or.inr ⟨q,a,by omega,c,d,fun j h3 h4 => ?_⟩
     by_cases ej:j=p
     ·rw[ej];exact e
     ·exact f j (by omega) h4
theorem index_ev (x:List Int) (hl:x.length≤9223372036854775807) (v:Int):∀ p:Nat,p≤x.length→∃ r:Int,Ev (fun k=>slices_Index_int_int.l0 k x v (x.length:Int) (p:Int)) r ∧
  (r ≥ 0 ↔ ∃ j:Nat,p≤j∧j<x.length∧rd x (j:Int)=v):=by
 refine back ?_ fun p hp ih => ?_
 ·refine⟨-1,Ev.shift ?_,?_⟩
  ·simp only[slices_Index_int_int.l0,Int.lt_irrefl,if_false]
   exact Ev.now _
  ·constructor
   ·intro h;omega
   ·intro ⟨j,h1,h2,_⟩;omega
 ·have c0:(0:Int)≤(p:Int):=by omega
  have c1:(p:Int)<(x.length:Int):=by omega
  by_cases e:v=rd x (p:Int)
  ·refine⟨(p:Int),Ev.shift ?_,?_⟩
   ·simp only[slices_Index_int_int.l0,c0,c1,if_true]
    refine Ev.pos e (Ev.now _)
   ·exact⟨fun _=>⟨p,Nat.le_refl _,hp,e.symm⟩,fun _=>c0⟩
  ·obtain⟨r,h1,h2⟩:=ih
   refine⟨r,Ev.shift ?_,?_⟩
   ·simp only[slices_Index_int_int.l0,c0,c1,if_true,succ64 hp hl]
    refine Ev.neg e h1
   ·rw[h2]
    constructor
    ·intro ⟨j,h3,h4,h5⟩;exact⟨j,by omega,h4,h5⟩
    ·intro ⟨j,h3,h4,h5⟩
     refine⟨j,?_,h4,h5⟩
     by_cases ej:j=p
     ·rw[ej] at h5;exact absurd h5.symm e
     ·omega
theorem rd_take (h:List Int) {i j:Nat} (hj:j<i) (hl:j<h.length):rd (h.take i) (j:Int)=rd h (j:Int):=by
 have h1:(h.take i)[j]? = some h[j]:=by rw[List.getElem?_take,if_pos hj];exact List.getElem?_eq_getElem hl
 rw[rd_get h1,rd_get (List.getElem?_eq_getElem hl)]
theorem Xa4 (h:List Int) (s:Int) (hl:h.length≤1048576):Ev (fun k=>Xu.f k h s) (okB h 0 s):=by
 simp only[Xu.f]
 refine back (n:=h.length) (Q:=fun i=>Ev (fun k=>Xu.l0 k (i:Int) h s) (okB h i s)) ?_ (fun i hi ih => ?_) 0 (Nat.zero_le _)
 ·refine Ev.shift ?_
  rw[okB_end]
  simp only[Xu.l0,Int.lt_irrefl,if_false,Xb.f]
  by_cases h4:h.length=4
  ·have c:(h.length:Int)=4:=by omega
   simp only[c,h4,if_true,true_and]
   by_cases h0:s ≥ 0
   ·simp only[h0,if_true,Option.bind_some]
    exact Ev.val (by first | (simp;done) | (simp;omega))
   ·simp only[h0,if_false,Option.bind_some]
    exact Ev.val (by first | (simp;done) | (simp;omega))
  ·have c:¬ (h.length:Int)=4:=by omega
   simp only[c,h4,if_false,false_and,decide_false]
   exact Ev.now _
 ·have c0:(0:Int)≤(i:Int):=by omega
  have c1:(i:Int)<(h.length:Int):=by omega
  refine Ev.shift ?_
  simp only[Xu.l0,c0,c1,if_true,succ64 hi (by omega),XE.f,Xb.f]
  by_cases hz:rd h (i:Int)=0
  ·rw[okB_next hi (Or.inl hz)]
   simp only[hz,if_true]
   exact ih
  ·simp only[hz,if_false]
   by_cases h1:rd h (i:Int) ≥ 1
   ·by_cases h6:rd h (i:Int)≤6
    ·simp only[h1,h6,if_true,decide_true,Option.bind_some]
     obtain⟨r,e1,e2⟩:=key_ev h (by omega) s (rd h (i:Int)) 0 (Nat.zero_le _)
     have e1':Ev (fun k=>XX.f k h s (rd h (i:Int))) r:=e1
     refine Ev.bind e1' ?_
     by_cases hr:r=(i:Int)
     ·have hd:¬ dup h i:=by
       rintro⟨j,hj1,hj2⟩
       rcases e2 with⟨a,b⟩ | ⟨q,a,b,c,d,f⟩
       ·exact b j (Nat.zero_le _) (by omega) hj2
       ·exact f j (Nat.zero_le _) (by omega) hj2
      rw[okB_next hi (Or.inr ⟨h1,h6,hd⟩)]
      simp only[hr,if_true]
      exact ih
     ·have hd:dup h i:=by
       rcases e2 with⟨a,b⟩ | ⟨q,a,b,c,d,f⟩
       ·exact absurd rfl (b i (Nat.zero_le _) hi)
       ·refine⟨q,?_,d⟩
        apply Classical.byContradiction
        intro hn
        by_cases hq:i<q
        ·exact f i (Nat.zero_le _) hq rfl
        ·exact hr (by omega)
      rw[okB_false hi (fun a=>a.elim hz (fun a=>a.2.2 hd))]
      simp only[hr,if_false]
      exact Ev.now _
    ·rw[okB_false hi (fun a=>a.elim hz (fun a=>h6 a.2.1))]
     simp only[h1,h6,if_true,decide_false,Option.bind_some,Bool.false_eq_true,if_false]
     exact Ev.now _
   ·rw[okB_false hi (fun a=>a.elim hz (fun a=>h1 a.1))]
    simp only[h1,Option.bind_some,Bool.false_eq_true,if_false]
    exact Ev.now _
theorem Xa5 (h:List Int) (s:Int) (hl:h.length≤1048576):Ev (fun k=>XP.f k h s) (okB h 0 s):=by
 simp only[XP.f]
 refine back (n:=h.length) (Q:=fun i=>Ev (fun k=>XP.l0 k h (h.length:Int) (i:Int) h s) (okB h i s)) ?_ (fun i hi ih => ?_) 0 (Nat.zero_le _)
 ·refine Ev.shift ?_
  rw[okB_end]
  simp only[XP.l0,Int.lt_irrefl,if_false,Xe.f]
  by_cases h4:h.length=4
  ·have c:(h.length:Int)=4:=by omega
   simp only[c,h4,if_true,true_and]
   by_cases h0:s ≥ 0
   ·simp only[h0,if_true,Option.bind_some]
    exact Ev.val (by first | (simp;done) | (simp;omega))
   ·simp only[h0,if_false,Option.bind_some]
    exact Ev.val (by first | (simp;done) | (simp;omega))
  ·have c:¬ (h.length:Int)=4:=by omega
   simp only[c,h4,if_false,false_and,decide_false]
   exact Ev.now _
 ·have c0:(0:Int)≤(i:Int):=by omega
  have c1:(i:Int)<(h.length:Int):=by omega
  have c2:(i:Int)≤(h.length:Int):=by omega
  refine Ev.shift ?_
  simp only[XP.l0,c0,c1,c2,if_true,succ64 hi (by omega),XQ.f,Xe.f,Int.toNat_natCast]
  by_cases hz:rd h (i:Int)=0
  ·rw[okB_next hi (Or.inl hz)]
   simp only[hz,if_true]
   exact ih
  ·simp only[hz,if_false]
   by_cases h1:rd h (i:Int) ≥ 1
   ·by_cases h6:rd h (i:Int)≤6
    ·simp only[h1,h6,if_true,decide_true,Option.bind_some]
     obtain⟨r,e1,e2⟩:=index_ev (h.take i) (by rw[List.length_take];omega) (rd h (i:Int)) 0 (Nat.zero_le _)
     have e1':Ev (fun k=>slices_Contains_int_int.f k (h.take i) (rd h (i:Int))) (decide (r ≥ 0)):=by
      simp only[slices_Contains_int_int.f]
      exact Ev.bind (show Ev (fun k=>slices_Index_int_int.f k (h.take i) (rd h (i:Int))) r from e1) (Ev.now _)
     refine Ev.bind e1' ?_
     have hd:r ≥ 0 ↔ dup h i:=by
      rw[e2]
      constructor
      ·intro ⟨j,_,h3,h4⟩
       rw[List.length_take] at h3
       exact⟨j,by omega,by rw[rd_take h (by omega) (by omega)] at h4;exact h4⟩
      ·intro ⟨j,h3,h4⟩
       exact⟨j,Nat.zero_le _,by rw[List.length_take];omega,by rw[rd_take h h3 (by omega)];exact h4⟩
     by_cases hr:r ≥ 0
     ·rw[okB_false hi (fun a=>a.elim hz (fun a=>a.2.2 (hd.mp hr)))]
      simp only[hr,decide_true,if_true]
      exact Ev.now _
     ·rw[okB_next hi (Or.inr ⟨h1,h6,fun a=>hr (hd.mpr a)⟩)]
      simp only[hr,decide_false,Bool.false_eq_true,if_false]
      exact ih
    ·rw[okB_false hi (fun a=>a.elim hz (fun a=>h6 a.2.1))]
     simp only[h1,h6,if_true,decide_false,Option.bind_some,Bool.false_eq_true,if_false]
     exact Ev.now _
   ·rw[okB_false hi (fun a=>a.elim hz (fun a=>h1 a.1))]
    simp only[h1,Option.bind_some,Bool.false_eq_true,if_false]
    exact Ev.now _
theorem okB_elim {h:List Int} {s:Int} (a:okB h 0 s=true):h.length=4∧0≤s∧s≤5∧∀ i:Nat,i<4→rd h (i:Int)=0 ∨ (1≤rd h (i:Int)∧rd h (i:Int)≤6):=by
 have b:=okB_iff.mp a
 refine⟨b.2.1,b.2.2.1,b.2.2.2,fun i hi => ?_⟩
 rcases b.1 i (Nat.zero_le _) (by omega) with c | c
 ·exact Or.inl c
 ·exact Or.inr ⟨c.1,c.2.1⟩
def okC (b:List Int) (i:Int):Prop:=b.length≤1048576∧0≤i∧i≤(b.length:Int)
theorem and255_all (n:Int):Go.bits .and .i64 n 255=n % 256:=by
 have h255:(BitVec.ofInt 64 255).toNat=2 ^ 8 - 1:=by decide
 have key:(BitVec.ofInt 64 n &&& BitVec.ofInt 64 255).toNat=(n % ((2 ^ 64:Nat):Int)).toNat % 2 ^ 8:=by
  rw[BitVec.toNat_and,BitVec.toNat_ofInt,h255,Nat.and_two_pow_sub_one_eq_mod]
 show IntKind.i64.wrap ((BitVec.ofInt 64 n &&& BitVec.ofInt 64 255).toNat:Nat)=n % 256
 rw[key,IntKind.wrap_i64]
 omega
theorem l1Byte_got {b:List Int} {i:Int} (h:okC b i) (c:Int):Got (Xaa.f b i c) (fun r=>0≤r.1∧r.1≤255∧okC b r.2.1):=by
 obtain⟨h0,h1,h2⟩:=h
 simp only[Xaa.f,and255_all]
 refine Got.ite (fun h3=>Got.pos h1 (Got.now ⟨?_,?_,h0,?_,?_⟩)) (fun h3=>Got.now ⟨?_,?_,h0,h1,h2⟩)
 ·show 0≤_ % (256:Int);omega
 ·show _ % (256:Int)≤255;omega
 ·show 0≤wrap64 (i+1);rw[w64 (by omega) (by omega)];omega
 ·show wrap64 (i+1)≤_;rw[w64 (by omega) (by omega)];omega
 ·show 0≤_ % (256:Int);omega
 ·show _ % (256:Int)≤255;omega
theorem l1Below_got {b:List Int} {i:Int} (h:okC b i) (c n:Int):Got (Xj.f b i c n) (fun r=>0≤r.1∧(0<n→r.1<n)∧(n≤0→r.1=0)∧okC b r.2.1):=by
 simp only[Xj.f]
 refine Got.ite (fun h1=>Got.now ⟨Int.le_refl 0,fun h2=>by omega,fun _=>rfl,h⟩) (fun h1 => ?_)
 have hn:¬ n=0:=by omega
 refine Got.ite (fun h2 => ?_) (fun h2 => ?_)
 ·refine(l1Byte_got h c).bind (fun r hr=>Got.neg hn (Got.now ⟨?_,fun _ => ?_,fun _=>by omega,hr.2.2⟩))
  ·exact Int.tmod_nonneg _ hr.1
  ·exact Int.tmod_lt_of_pos _ (by omega)
 ·refine(l1Byte_got h c).bind (fun r1 h1=>(l1Byte_got h1.2.2 _).bind (fun r2 h2=>(l1Byte_got h2.2.2 _).bind (fun r3 h3=>(l1Byte_got h3.2.2 _).bind (fun r4 h4=>Got.neg hn (Got.now ⟨?_,fun _ => ?_,fun _=>by omega,h4.2.2⟩)))))
  ·refine Int.tmod_nonneg _ ?_
   have e1:wrap64 (r1.1 * 16777216)=r1.1 * 16777216:=w64 (by omega) (by omega)
   have e2:wrap64 (r2.1 * 65536)=r2.1 * 65536:=w64 (by omega) (by omega)
   have e3:wrap64 (r3.1 * 256)=r3.1 * 256:=w64 (by omega) (by omega)
   rw[e1,e2,e3,w64 (n:=r1.1 * 16777216+r2.1 * 65536) (by omega) (by omega),w64 (n:=r1.1 * 16777216+r2.1 * 65536+r3.1 * 256) (by omega) (by omega),w64 (by omega) (by omega)]
   omega
  ·exact Int.tmod_lt_of_pos _ (by omega)
theorem l1New_evg (b:List Int) (hb:b.length≤1048576):EvG (fun k=>X8.f k b) (fun r=>r.1=b∧r.2.1=0):=by
 have key:∀ i:Nat,i≤b.length→∀ h:Int,EvG (fun k=>X8.l0 k b h (i:Int)) (fun r=>r.1=b∧r.2.1=0):=by
  refine back ?_ fun i hi ih => ?_
  ·intro h
   refine EvG.shift ?_
   simp only[X8.l0,Int.lt_irrefl,if_false]
   exact EvG.now ⟨rfl,rfl⟩
  ·intro h
   have c0:(0:Int)≤(i:Int):=by omega
   have c1:(i:Int)<(b.length:Int):=by omega
   refine EvG.shift ?_
   simp only[X8.l0,c0,c1,if_true,succ64 hi (by omega)]
   refine EvG.ite (fun _=>ih _) (fun _=>EvG.now ⟨rfl,rfl⟩)
 simp only[X8.f]
 exact key 0 (Nat.zero_le _) _
theorem okC_start {b:List Int} (hb:b.length≤1048576):okC b 0:=⟨hb,Int.le_refl _,by omega⟩
end Go.Proofs.YthejoblnfpaojaaGreat.P
