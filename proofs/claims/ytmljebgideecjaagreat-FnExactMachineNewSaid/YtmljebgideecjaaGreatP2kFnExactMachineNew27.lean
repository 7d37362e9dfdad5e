/- A part of the proof of the law FnExactMachineNew: texts of this seat, merged (words, printed functions of the program, plain lemmas). Conditions: none of its own. -/
import Derived.Test.YtmljebgideecjaaGreatP2kFnExactMachineNew21
import Derived.Test.YtmljebgideecjaaGreatP2kFnExactMachineNew22
set_option linter.unusedSimpArgs false
set_option linter.unusedVariables false
set_option maxHeartbeats 8000000
set_option maxRecDepth 100000
namespace Go.Proofs.YtmljebgideecjaaGreat.P2
open Go.RowKit Go.Proofs.YtmljebgideecjaaGreatW.PrintWords Go.Proofs.YtmljebgideecjaaGreatW.PrintLast Go.Proofs.YtmljebgideecjaaGreatZ
def keyB (b:Int):Bool:=decide (0≤b∧b≤3)
def valB (c:Int):Bool:=decide (1≤c∧c≤6)
def clsB (b:Int):Bool:=decide (0≤b∧b≤2)
def opOk (a b c:Int):Bool :=
 if a=1 then keyB b && valB c else if a=2 then keyB b && valB c else if a=3 then keyB b && (c == 0) else if a=4 then keyB b && (c == 0)
 else if a=5 then (b == 0) && valB c else if a=6 then clsB b && (c == 0) else if a=7 then (b == 0) && (c == 0) else if a=8 then (b == 0) && (c == 0) else if a=9 then (b == 0) && (c == 0)
 else if a=10 then (b == 0) && valB c else false
theorem in_dec (n lo hi:Int):(if n ≥ lo then some (decide (n≤hi)) else some false)=some (decide (lo≤n∧n≤hi)):=by
 by_cases h:n ≥ lo
 ·have h':lo≤n:=h
  simp[h,h']
 ·have h':¬ lo≤n:=h
  simp[h,h']
theorem specIn_eq (n lo hi:Int):Xb.f n lo hi=some (decide (lo≤n∧n≤hi)):=in_dec n lo hi
theorem implFrom_eq (n lo hi:Int):Xd.f n lo hi=some (decide (lo≤n∧n≤hi)):=in_dec n lo hi
theorem XbM (a b c:Int) (h:1≤a∧a≤10) (k:Nat):XT.f (k+1+1) a b c=some (opOk a b c):=by
 have h':a=1 ∨ a=2 ∨ a=3 ∨ a=4 ∨ a=5 ∨ a=6 ∨ a=7 ∨ a=8 ∨ a=9 ∨ a=10:=by omega
 simp only[XT.f,XT.j0,XT.j1,Xbd.f,Xa8.f,XaJ.f,XB.f,specIn_eq,Option.bind_some,opOk,keyB,valB,clsB]
 generalize decide (0≤b∧b≤3)=kb
 generalize decide (1≤c∧c≤6)=vc
 generalize decide (0≤b∧b≤2)=cb
 generalize (b == 0)=b0
 generalize (c == 0)=c0
 rcases h' with rfl | rfl | rfl | rfl | rfl | rfl | rfl | rfl | rfl | rfl<;>cases kb<;>cases vc<;>cases cb<;>cases b0<;>cases c0<;>rfl
theorem Xbg (a b c:Int):Ev (fun k=>XT.f k a b c) (opOk a b c):=by
 by_cases h:1≤a∧a≤10
 ·refine Ev.shift (Ev.shift ?_)
  simp only[XbM a b c h]
  exact Ev.now _
 ·have:opOk a b c=false:=by
   unfold opOk
   rw[if_neg (by omega),if_neg (by omega),if_neg (by omega),if_neg (by omega),if_neg (by omega),if_neg (by omega),if_neg (by omega),if_neg (by omega),if_neg (by omega),if_neg (by omega)]
  rw[this]
  simp only[XT.f,specIn_eq,Option.bind_some,h,decide_false,Bool.false_eq_true,if_false]
  exact Ev.now _
theorem XbN (a b c:Int) (h:1≤a∧a≤10) (k:Nat):Xs.f (k+1+1+1) a b c=some (opOk a b c):=by
 have h':a=1 ∨ a=2 ∨ a=3 ∨ a=4 ∨ a=5 ∨ a=6 ∨ a=7 ∨ a=8 ∨ a=9 ∨ a=10:=by omega
 have e1:(if b=0 then some (c == 0) else some false)=some ((b == 0) && (c == 0)):=by by_cases hb:b=0<;>simp[hb]
 have e2:(if b=0 then some (decide (1≤c∧c≤6)) else some false)=some ((b == 0) && decide (1≤c∧c≤6)):=by by_cases hb:b=0<;>simp[hb]
 simp only[Xs.f,Xs.j0,Xs.j1,Xs.j2,XaK.f,X6.f,XaA.f,implFrom_eq,Option.bind_some,opOk,keyB,valB,clsB,e1,e2]
 generalize decide (0≤b∧b≤3)=kb
 generalize decide (1≤c∧c≤6)=vc
 generalize decide (0≤b∧b≤2)=cb
 generalize (b == 0)=b0
 generalize (c == 0)=c0
 rcases h' with rfl | rfl | rfl | rfl | rfl | rfl | rfl | rfl | rfl | rfl<;>cases kb<;>cases vc<;>cases cb<;>cases b0<;>cases c0<;>rfl
theorem Xbf (a b c:Int):Ev (fun k=>Xs.f k a b c) (opOk a b c):=by
 refine Ev.shift (Ev.shift (Ev.shift ?_))
 by_cases h:1≤a∧a≤10
 ·simp only[XbN a b c h]
  exact Ev.now _
 ·have:opOk a b c=false:=by
   unfold opOk
   rw[if_neg (by omega),if_neg (by omega),if_neg (by omega),if_neg (by omega),if_neg (by omega),if_neg (by omega),if_neg (by omega),if_neg (by omega),if_neg (by omega),if_neg (by omega)]
  rw[this]
  have h1:¬ a=1:=by omega
  have h2:¬ a=2:=by omega
  have h3:¬ a=3:=by omega
  have h4:¬ a=4:=by omega
  have h5:¬ a=5:=by omega
  have h6:¬ a=6:=by omega
  have h7:¬ a=7:=by omega
  have h8:¬ a=8:=by omega
  have h9:¬ a=9:=by omega
  have h10:¬ a=10:=by omega
  simp only[Xs.f,Xs.j0,Xs.j1,Xs.j2,h1,h2,h3,h4,h5,h6,h7,h8,h9,h10,beq_iff_eq,if_false]
  exact Ev.now _
def dup (h:List Int) (i:Nat):Prop:=∃ j,j<i∧rd h (j:Int)=rd h (i:Int)
def oneOk (h:List Int) (i:Nat):Prop:=rd h (i:Int)=0 ∨ (1≤rd h (i:Int)∧rd h (i:Int)≤6∧¬ dup h i)
def allOk (h:List Int) (i:Nat):Prop:=∀ j,i≤j→j<h.length→oneOk h j
theorem allOk_step {h:List Int} {i:Nat} (hi:i<h.length):allOk h i ↔ (oneOk h i∧allOk h (i+1)):=by
 constructor
 ·intro a;exact⟨a i (Nat.le_refl _) hi,fun j h1 h2=>a j (by omega) h2⟩
 ·intro ⟨a,b⟩ j h1 h2
  by_cases e:j=i
  ·rw[e];exact a
  ·exact b j (by omega) h2
noncomputable def okB (h:List Int) (i:Nat) (s:Int):Bool:=@decide (allOk h i∧h.length=4∧0≤s∧s≤5) (Classical.propDecidable _)
theorem okB_iff {h:List Int} {i:Nat} {s:Int} : okB h i s=true ↔ (allOk h i∧h.length=4∧0≤s∧s≤5):=by
 unfold okB
 exact @decide_eq_true_iff _ (Classical.propDecidable _)
theorem okB_false {h:List Int} {i:Nat} {s:Int} (hi:i<h.length) (hn:¬ oneOk h i):okB h i s=false:=by
 rw[Bool.eq_false_iff]
 intro a
 exact hn ((allOk_step hi).mp (okB_iff.mp a).1).1
theorem okB_next {h:List Int} {i:Nat} {s:Int} (hi:i<h.length) (hy:oneOk h i):okB h i s=okB h (i+1) s:=by
 rw[Bool.eq_iff_iff,okB_iff,okB_iff,allOk_step hi]
 exact⟨fun a=>⟨a.1.2,a.2⟩,fun a=>⟨⟨hy,a.1⟩,a.2⟩⟩
theorem okB_end (h:List Int) (s:Int):okB h h.length s=decide (h.length=4∧0≤s∧s≤5):=by
 rw[Bool.eq_iff_iff,okB_iff,decide_eq_true_iff]
 have:allOk h h.length:=fun j h1 h2=>absurd h2 (by omega)
 exact⟨fun a=>a.2,fun a=>⟨this,a⟩⟩
theorem key_ev (h:List Int) (hl:h.length≤9223372036854775807) (s v:Int):∀ p:Nat,p≤h.length→∃ r:Int,Ev (fun k=>Xak.l0 k v (p:Int) h s) r ∧
  ((r = -1∧∀ j:Nat,p≤j→j<h.length→rd h (j:Int) ≠ v) ∨ ∃ q:Nat,r=(q:Int)∧p≤q∧q<h.length∧rd h (q:Int)=v∧∀ j:Nat,p≤j→j<q→rd h (j:Int) ≠ v):=by
 refine back ?_ fun p hp ih => ?_
 ·refine⟨-1,Ev.shift ?_,Or.inl ⟨rfl,fun j h1 h2=>absurd h2 (by omega)⟩⟩
  simp only[Xak.l0,Int.lt_irrefl,if_false]
  exact Ev.now _
 ·have c0:(0:Int)≤(p:Int):=by omega
  have c1:(p:Int)<(h.length:Int):=by omega
  by_cases e:rd h (p:Int)=v
  ·refine⟨(p:Int),Ev.shift ?_,Or.inr ⟨p,rfl,Nat.le_refl _,hp,e,fun j h1 h2=>absurd h2 (by omega)⟩⟩
   simp only[Xak.l0,c0,c1,e,if_true]
   exact Ev.now _
  ·obtain⟨r,h1,h2⟩:=ih
   refine⟨r,Ev.shift ?_,?_⟩
   ·simp only[Xak.l0,c0,c1,e,if_true,if_false,succ64 hp hl]
    exact h1
   ·rcases h2 with⟨a,b⟩ | ⟨q,a,b,c,d,f⟩
    ·refine Or.inl ⟨a,fun j h3 h4 => ?_⟩
     by_cases ej:j=p
     ·rw[ej];exact e
     ·exact b j (by omega) h4
    ·refine Or.inr ⟨q,a,by omega,c,d,fun j h3 h4 => ?_⟩
     by_cases ej:j=p
     ·rw[ej];exact e
     ·exact f j (by omega) h4
theorem index_ev (x:List Int) (hl:x.length≤9223372036854775807) (v:Int):∀ p:Nat,p≤x.length→∃ r:Int,Ev (fun k=>slices_Index_int_int.l0 k x v (x.length:Int) (p:Int)) r ∧
  (r ≥ 0 ↔ ∃ j:Nat,p≤j∧j<x.length∧rd x (j:Int)=v):=by
 refine back ?_ fun p hp ih => ?_
 ·refine⟨-1,Ev.shift ?_,?_⟩
  ·simp only[slices_Index_int_int.l0,Int.lt_irrefl,if_false]
   exact Ev.now _
  ·constructor
   ·intro h;omega
   ·intro ⟨j,h1,h2,_⟩;omega
 ·have c0:(0:Int)≤(p:Int):=by omega
  have c1:(p:Int)<(x.length:Int):=by omega
  by_cases e:v=rd x (p:Int)
  ·refine⟨(p:Int),Ev.shift ?_,?_⟩
   ·simp only[slices_Index_int_int.l0,c0,c1,if_true]
    refine Ev.pos e (Ev.now _)
   ·exact⟨fun _=>⟨p,Nat.le_refl _,hp,e.symm⟩,fun _=>c0⟩
  ·obtain⟨r,h1,h2⟩:=ih
   refine⟨r,Ev.shift ?_,?_⟩
   ·simp only[slices_Index_int_int.l0,c0,c1,if_true,succ64 hp hl]
    refine Ev.neg e h1
   ·rw[h2]
    constructor
    ·intro ⟨j,h3,h4,h5⟩;exact⟨j,by omega,h4,h5⟩
    ·intro ⟨j,h3,h4,h5⟩
     refine⟨j,?_,h4,h5⟩
     by_cases ej:j=p
     ·rw[ej] at h5;exact absurd h5.symm e
     ·omega
theorem rd_take (h:List Int) {i j:Nat} (hj:j<i) (hl:j<h.length):rd (h.take i) (j:Int)=rd h (j:Int):=by
 have h1:(h.take i)[j]? = some h[j]:=by rw[List.getElem?_take,if_pos hj];exact List.getElem?_eq_getElem hl
 rw[rd_get h1,rd_get (List.getElem?_eq_getElem hl)]
theorem Xbo (h:List Int) (s:Int) (hl:h.length≤1048576):Ev (fun k=>Xn.f k h s) (okB h 0 s):=by
 simp only[Xn.f]
 refine back (n:=h.length) (Q:=fun i=>Ev (fun k=>Xn.l0 k (i:Int) h s) (okB h i s)) ?_ (fun i hi ih => ?_) 0 (Nat.zero_le _)
 ·refine Ev.shift ?_
  rw[okB_end]
  simp only[Xn.l0,Int.lt_irrefl,if_false,Xb.f]
  by_cases h4:h.length=4
  ·have c:(h.length:Int)=4:=by omega
   simp only[c,h4,if_true,true_and]
   by_cases h0:s ≥ 0
   ·simp only[h0,if_true,Option.bind_some]
    exact Ev.val (by first | (simp;done) | (simp;omega))
   ·simp only[h0,if_false,Option.bind_some]
    exact Ev.val (by first | (simp;done) | (simp;omega))
  ·have c:¬ (h.length:Int)=4:=by omega
   simp only[c,h4,if_false,false_and,decide_false]
   exact Ev.now _
 ·have c0:(0:Int)≤(i:Int):=by omega
  have c1:(i:Int)<(h.length:Int):=by omega
  refine Ev.shift ?_
  simp only[Xn.l0,c0,c1,if_true,succ64 hi (by omega),XB.f,Xb.f]
  by_cases hz:rd h (i:Int)=0
  ·rw[okB_next hi (Or.inl hz)]
   simp only[hz,if_true]
   exact ih
  ·simp only[hz,if_false]
   by_cases h1:rd h (i:Int) ≥ 1
   ·by_cases h6:rd h (i:Int)≤6
    ·simp only[h1,h6,if_true,decide_true,Option.bind_some]
     obtain⟨r,e1,e2⟩:=key_ev h (by omega) s (rd h (i:Int)) 0 (Nat.zero_le _)
     have e1':Ev (fun k=>Xak.f k h s (rd h (i:Int))) r:=e1
     refine Ev.bind e1' ?_
     by_cases hr:r=(i:Int)
     ·have hd:¬ dup h i:=by
       rintro⟨j,hj1,hj2⟩
       rcases e2 with⟨a,b⟩ | ⟨q,a,b,c,d,f⟩
       ·exact b j (Nat.zero_le _) (by omega) hj2
       ·exact f j (Nat.zero_le _) (by omega) hj2
      rw[okB_next hi (Or.inr ⟨h1,h6,hd⟩)]
      simp only[hr,if_true]
      exact ih
     ·have hd:dup h i:=by
       rcases e2 with⟨a,b⟩ | ⟨q,a,b,c,d,f⟩
       ·exact absurd rfl (b i (Nat.zero_le _) hi)
       ·refine⟨q,?_,d⟩
        apply Classical.byContradiction
        intro hn
        by_cases hq:i<q
        ·exact f i (Nat.zero_le _) hq rfl
        ·exact hr (by omega)
      rw[okB_false hi (fun a=>a.elim hz (fun a=>a.2.2 hd))]
      simp only[hr,if_false]
      exact Ev.now _
    ·rw[okB_false hi (fun a=>a.elim hz (fun a=>h6 a.2.1))]
     simp only[h1,h6,if_true,decide_false,Option.bind_some,Bool.false_eq_true,if_false]
     exact Ev.now _
   ·rw[okB_false hi (fun a=>a.elim hz (fun a=>h1 a.1))]
    simp only[h1,Option.bind_some,Bool.false_eq_true,if_false]
    exact Ev.now _
theorem Xbp (h:List Int) (s:Int) (hl:h.length≤1048576):Ev (fun k=>X5.f k h s) (okB h 0 s):=by
 simp only[X5.f]
 refine back (n:=h.length) (Q:=fun i=>Ev (fun k=>X5.l0 k h (h.length:Int) (i:Int) h s) (okB h i s)) ?_ (fun i hi ih => ?_) 0 (Nat.zero_le _)
 ·refine Ev.shift ?_
  rw[okB_end]
  simp only[X5.l0,Int.lt_irrefl,if_false,Xd.f]
  by_cases h4:h.length=4
  ·have c:(h.length:Int)=4:=by omega
   simp only[c,h4,if_true,true_and]
   by_cases h0:s ≥ 0
   ·simp only[h0,if_true,Option.bind_some]
    exact Ev.val (by first | (simp;done) | (simp;omega))
   ·simp only[h0,if_false,Option.bind_some]
    exact Ev.val (by first | (simp;done) | (simp;omega))
  ·have c:¬ (h.length:Int)=4:=by omega
   simp only[c,h4,if_false,false_and,decide_false]
   exact Ev.now _
 ·have c0:(0:Int)≤(i:Int):=by omega
  have c1:(i:Int)<(h.length:Int):=by omega
  have c2:(i:Int)≤(h.length:Int):=by omega
  refine Ev.shift ?_
  simp only[X5.l0,c0,c1,c2,if_true,succ64 hi (by omega),X6.f,Xd.f,Int.toNat_natCast]
  by_cases hz:rd h (i:Int)=0
  ·rw[okB_next hi (Or.inl hz)]
   simp only[hz,if_true]
   exact ih
  ·simp only[hz,if_false]
   by_cases h1:rd h (i:Int) ≥ 1
   ·by_cases h6:rd h (i:Int)≤6
    ·simp only[h1,h6,if_true,decide_true,Option.bind_some]
     obtain⟨r,e1,e2⟩:=index_ev (h.take i) (by rw[List.length_take];omega) (rd h (i:Int)) 0 (Nat.zero_le _)
     have e1':Ev (fun k=>slices_Contains_int_int.f k (h.take i) (rd h (i:Int))) (decide (r ≥ 0)):=by
      simp only[slices_Contains_int_int.f]
      exact Ev.bind (show Ev (fun k=>slices_Index_int_int.f k (h.take i) (rd h (i:Int))) r from e1) (Ev.now _)
     refine Ev.bind e1' ?_
     have hd:r ≥ 0 ↔ dup h i:=by
      rw[e2]
      constructor
      ·intro ⟨j,_,h3,h4⟩
       rw[List.length_take] at h3
       exact⟨j,by omega,by rw[rd_take h (by omega) (by omega)] at h4;exact h4⟩
      ·intro ⟨j,h3,h4⟩
       exact⟨j,Nat.zero_le _,by rw[List.length_take];omega,by rw[rd_take h h3 (by omega)];exact h4⟩
     by_cases hr:r ≥ 0
     ·rw[okB_false hi (fun a=>a.elim hz (fun a=>a.2.2 (hd.mp hr)))]
      simp only[hr,decide_true,if_true]
      exact Ev.now _
     ·rw[okB_next hi (Or.inr ⟨h1,h6,fun a=>hr (hd.mpr a)⟩)]
      simp only[hr,decide_false,Bool.false_eq_true,if_false]
      exact ih
    ·rw[okB_false hi (fun a=>a.elim hz (fun a=>h6 a.2.1))]
     simp only[h1,h6,if_true,decide_false,Option.bind_some,Bool.false_eq_true,if_false]
     exact Ev.now _
   ·rw[okB_false hi (fun a=>a.elim hz (fun a=>h1 a.1))]
    simp only[h1,Option.bind_some,Bool.false_eq_true,if_false]
    exact Ev.now _
theorem okB_elim {h:List Int} {s:Int} (a:okB h 0 s=true):h.length=4∧0≤s∧s≤5∧∀ i:Nat,i<4→rd h (i:Int)=0 ∨ (1≤rd h (i:Int)∧rd h (i:Int)≤6):=by
 have b:=okB_iff.mp a
 refine⟨b.2.1,b.2.2.1,b.2.2.2,fun i hi => ?_⟩
 rcases b.1 i (Nat.zero_le _) (by omega) with c | c
 ·exact Or.inl c
 ·exact Or.inr ⟨c.1,c.2.1⟩
end Go.Proofs.YtmljebgideecjaaGreat.P2
