/- A part of the proof of the law FnStarts: texts of this seat, merged (words, printed functions of the program, plain lemmas). Conditions: none of its own. -/
import Derived.Test.YthejoblnfpaojaaGreatPkFnStarts24
import Derived.Test.YthejoblnfpaojaaGreatPkFnStarts25
set_option linter.unusedSimpArgs false
set_option linter.unusedVariables false
set_option maxHeartbeats 8000000
set_option maxRecDepth 100000
namespace Go.Proofs.YthejoblnfpaojaaGreat.P
open Go.RowKit Go.Proofs.YthejoblnfpaojaaGreatW.PrintWords Go.Proofs.YthejoblnfpaojaaGreatW.PrintLast Go.Proofs.YthejoblnfpaojaaGreatZ
def own (h:List Int):Nat→Int→Int
 | 0,_=>0
 | k+1,v=>if rd h (k:Int)=v then (k:Int)+1 else own h k v
def cnt (h:List Int):Nat→Int→Int
 | 0,_=>0
 | k+1,c=>cnt h k c+(if rd h (k:Int) ≠ 0∧rd h (k:Int) % 3=c then 1 else 0)
def via (h:List Int) (s:Int):Nat→Int→Int
 | 0,_=>0
 | k+1,v=>if rd h (k:Int)=v∧(k:Int)<s - 1 then (k:Int)+1 else via h s k v
theorem cnt_le (h:List Int) (c:Int):∀ k,0≤cnt h k c∧cnt h k c≤(k:Int)
 | 0=>by simp[cnt]
 | k+1=>by
  have:=cnt_le h c k
  simp only[cnt]
  split<;>omega
def wl (F:Nat→Int):List Int:=(List.range 20).map F
theorem wl_length (F:Nat→Int):(wl F).length=20:=by unfold wl;rw[List.length_map,List.length_range]
theorem wl_get (F:Nat→Int) {i:Nat} (h:i<20):(wl F)[i]? = some (F i):=by
 unfold wl
 rw[List.getElem?_map,List.getElem?_range h]
 rfl
theorem wl_rd (F:Nat→Int) {i:Int} (h0:0≤i) (h:i<20):rd (wl F) i=F i.toNat:=by
 obtain⟨n,rfl⟩:∃ n:Nat,i=(n:Int):=⟨i.toNat,by omega⟩
 rw[Int.toNat_natCast]
 exact rd_get (wl_get F (by omega))
theorem wl_ext {F G:Nat→Int} (h:∀ i,i<20→F i=G i):wl F=wl G:=by
 unfold wl
 refine List.map_congr_left fun i hi=>h i (List.mem_range.mp hi)
theorem wl_set (F:Nat→Int) {j:Nat} (hj:j<20) (a:Int):(wl F).set j a=wl (fun i=>if i=j then a else F i):=by
 apply List.ext_getElem?
 intro i
 by_cases hi:i<20
 ·rw[wl_get _ hi,List.getElem?_set]
  by_cases e:j=i
  ·subst e
   rw[if_pos rfl,if_pos (by rw[wl_length];exact hj),if_pos rfl]
  ·rw[if_neg e,wl_get _ hi,if_neg (fun a=>e a.symm)]
 ·rw[List.getElem?_eq_none (by rw[List.length_set,wl_length];omega),List.getElem?_eq_none (by rw[wl_length];omega)]
def SF (h:List Int) (s:Int) (k:Nat) (i:Nat):Int :=
 if i<4 then (if i<k then rd h (i:Int) else 0) else if i<10 then own h k ((i:Int) - 3) else if i<14 then 0 else via h s k ((i:Int) - 13)
def PF (h:List Int) (s:Int) (k:Nat) (i:Nat):Int :=
 if i<4 then rd h (i:Int) else if i<10 then own h k ((i:Int) - 3) else if i<13 then cnt h k ((i:Int) - 10) else if i<14 then 0 else via h s k ((i:Int) - 13)
def WF (h:List Int) (s:Int) (i:Nat):Int :=
 if i<4 then rd h (i:Int) else if i<10 then own h 4 ((i:Int) - 3) else if i<13 then cnt h 4 ((i:Int) - 10) else if i<14 then s else via h s 4 ((i:Int) - 13)
def okVal (v:Int):Prop:=v=0 ∨ (1≤v∧v≤6)
theorem place_facts {v:Int} (h1:1≤v) (h6:v≤6):XaI.f v=some (3+v)∧XaG.f v=some (3+v)∧XaP.f v=some (13+v)∧XaN.f v=some (13+v)∧Xat.f v=some (v % 3)∧XaJ.f v=some (v % 3)∧XE.f v=some true:=by
 have g1:v ≥ 1:=h1
 have e1:wrap64 (3+v)=3+v:=w64 (by omega) (by omega)
 have e2:wrap64 (13+v)=13+v:=w64 (by omega) (by omega)
 have e3:Int.tmod v 3=v % 3:=Int.tmod_eq_emod_of_nonneg (by omega)
 refine⟨?_,?_,?_,?_,?_,?_,?_⟩
 ·simp only[XaI.f,XE.f,Xb.f,g1,h6,if_true,decide_true,Option.bind_some,e1]
 ·simp only[XaG.f,XQ.f,Xe.f,Xaf.f,g1,h6,if_true,decide_true,Option.bind_some,e1]
 ·simp only[XaP.f,XE.f,Xb.f,Xar.f,g1,h6,if_true,decide_true,Option.bind_some,e2]
 ·simp only[XaN.f,XQ.f,Xe.f,Xaq.f,Xaf.f,g1,h6,if_true,decide_true,Option.bind_some,e2]
 ·simp only[Xat.f,XQ.f,Xe.f,g1,h6,if_true,decide_true,Option.bind_some,e3]
 ·simp only[XaJ.f,XE.f,Xb.f,g1,h6,if_true,decide_true,Option.bind_some,e3]
 ·simp only[XE.f,Xb.f,g1,h6,if_true,decide_true,Option.bind_some]
theorem count_facts {c:Int} (h0:0≤c) (h2:c≤2):XaD.f c=some (10+c)∧XaH.f c=some (10+c):=by
 have g0:c ≥ 0:=h0
 have e:wrap64 (10+c)=10+c:=w64 (by omega) (by omega)
 constructor
 ·simp only[XaD.f,Xb.f,g0,h2,if_true,decide_true,Option.bind_some,e]
 ·simp only[XaH.f,Xao.f,Xe.f,Xaf.f,g0,h2,if_true,decide_true,Option.bind_some,e]
theorem rowAt_fact {k:Nat} (h:k<4):XaO.f (k:Int)=some (k:Int):=by
 have g0:(k:Int) ≥ 0:=by omega
 have g3:(k:Int)≤3:=by omega
 simp only[XaO.f,Xax.f,Xb.f,g0,g3,if_true,decide_true,Option.bind_some]
theorem SF_zero {h:List Int} {s:Int} {k:Nat} (hk:k<4) (hz:rd h (k:Int)=0):(wl (SF h s k)).set k 0=wl (SF h s (k+1)):=by
 rw[wl_set _ (by omega)]
 refine wl_ext fun i hi => ?_
 simp only[SF,own,via,hz]
 by_cases e:i=k
 ·subst e
  simp[hk,hz]
 ·rw[if_neg e]
  by_cases h4:i<4
  ·rw[if_pos h4,if_pos h4]
   by_cases h5:i<k
   ·rw[if_pos h5,if_pos (by omega)]
   ·rw[if_neg h5,if_neg (by omega)]
  ·rw[if_neg h4,if_neg h4]
   by_cases h10:i<10
   ·rw[if_pos h10,if_pos h10,if_neg (by omega)]
   ·rw[if_neg h10,if_neg h10]
    by_cases h14:i<14
    ·rw[if_pos h14,if_pos h14]
    ·rw[if_neg h14,if_neg h14,if_neg (by omega)]
theorem SF_val {h:List Int} {s:Int} {k:Nat} (hk:k<4) (h1:1≤rd h (k:Int)) (h6:rd h (k:Int)≤6) :
  (if (k:Int)<s - 1 then (((wl (SF h s k)).set k (rd h (k:Int))).set (3+rd h (k:Int)).toNat ((k:Int)+1)).set (13+rd h (k:Int)).toNat ((k:Int)+1) else ((wl (SF h s k)).set k (rd h (k:Int))).set (3+rd h (k:Int)).toNat ((k:Int)+1))=wl (SF h s (k+1)):=by
 generalize hv:rd h (k:Int)=v at h1 h6
 have key:∀ i,i<20→∀ b:Prop,[Decidable b]→(b ↔ (k:Int)<s - 1) →
   (if b∧i=(13+v).toNat then (k:Int)+1 else if i=(3+v).toNat then (k:Int)+1 else if i=k then v else SF h s k i)=SF h s (k+1) i:=by
  intro i hi b _ hb
  simp only[SF,own,via,hv]
  by_cases h4:i<4
  ·rw[if_neg (by omega),if_neg (by omega)]
   simp only[h4,if_true]
   by_cases e:i=k
   ·subst e;simp[hv]
   ·rw[if_neg e]
    by_cases h5:i<k
    ·rw[if_pos h5,if_pos (by omega)]
    ·rw[if_neg h5,if_neg (by omega)]
  ·simp only[h4,if_false]
   by_cases h10:i<10
   ·simp only[h10,if_true]
    rw[if_neg (by omega)]
    by_cases e:i=(3+v).toNat
    ·rw[if_pos e,if_pos (by omega)]
    ·rw[if_neg e,if_neg (by omega),if_neg (by omega)]
   ·simp only[h10,if_false]
    by_cases h14:i<14
    ·simp only[h14,if_true]
     rw[if_neg (by omega),if_neg (by omega),if_neg (by omega)]
    ·simp only[h14,if_false]
     by_cases e:i=(13+v).toNat
     ·by_cases hbb:b
      ·rw[if_pos ⟨hbb,e⟩,if_pos ⟨by omega,hb.mp hbb⟩]
      ·rw[if_neg (fun a=>hbb a.1),if_neg (by omega),if_neg (by omega),if_neg (fun a=>hbb (hb.mpr a.2))]
     ·rw[if_neg (fun a=>e a.2),if_neg (by omega),if_neg (by omega),if_neg (by omega)]
 by_cases hb:(k:Int)<s - 1
 ·rw[if_pos hb,wl_set _ (by omega),wl_set _ (by omega),wl_set _ (by omega)]
  refine wl_ext fun i hi => ?_
  have:=key i hi True (by simp[hb])
  simp only[true_and] at this
  exact this
 ·rw[if_neg hb,wl_set _ (by omega),wl_set _ (by omega)]
  refine wl_ext fun i hi => ?_
  have:=key i hi False (by simp[hb])
  simp only[false_and,if_false] at this
  exact this
theorem PF_zero {h:List Int} {s:Int} {k:Nat} (hk:k<4) (hz:rd h (k:Int)=0):wl (PF h s k)=wl (PF h s (k+1)):=by
 refine wl_ext fun i hi => ?_
 simp only[PF,own,via,cnt,hz]
 by_cases h4:i<4
 ·simp only[h4,if_true]
 ·simp only[h4,if_false]
  by_cases h10:i<10
  ·simp only[h10,if_true];rw[if_neg (by omega)]
  ·simp only[h10,if_false]
   by_cases h13:i<13
   ·simp only[h13,if_true];simp
   ·simp only[h13,if_false]
    by_cases h14:i<14
    ·simp only[h14,if_true]
    ·simp only[h14,if_false];rw[if_neg (by omega)]
theorem PF_val {h:List Int} {s:Int} {k:Nat} (hk:k<4) (h1:1≤rd h (k:Int)) (h6:rd h (k:Int)≤6) :
  (if (k:Int)<s - 1 then (((wl (PF h s k)).set (3+rd h (k:Int)).toNat ((k:Int)+1)).set (10+rd h (k:Int) % 3).toNat (cnt h k (rd h (k:Int) % 3)+1)).set (13+rd h (k:Int)).toNat ((k:Int)+1) else ((wl (PF h s k)).set (3+rd h (k:Int)).toNat ((k:Int)+1)).set (10+rd h (k:Int) % 3).toNat (cnt h k (rd h (k:Int) % 3)+1))=wl (PF h s (k+1)):=by
 generalize hv:rd h (k:Int)=v at h1 h6
 have key:∀ i,i<20→∀ b:Prop,[Decidable b]→(b ↔ (k:Int)<s - 1) →
   (if b∧i=(13+v).toNat then (k:Int)+1 else if i=(10+v % 3).toNat then cnt h k (v % 3)+1 else if i=(3+v).toNat then (k:Int)+1 else PF h s k i)=PF h s (k+1) i:=by
  intro i hi b _ hb
  simp only[PF,own,via,cnt,hv]
  by_cases h4:i<4
  ·rw[if_neg (by omega),if_neg (by omega),if_neg (by omega)]
   simp only[h4,if_true]
  ·simp only[h4,if_false]
   by_cases h10:i<10
   ·simp only[h10,if_true]
    rw[if_neg (by omega),if_neg (by omega)]
    by_cases e:i=(3+v).toNat
    ·rw[if_pos e,if_pos (by omega)]
    ·rw[if_neg e,if_neg (by omega)]
   ·simp only[h10,if_false]
    by_cases h13:i<13
    ·simp only[h13,if_true]
     rw[if_neg (by omega)]
     by_cases e:i=(10+v % 3).toNat
     ·have e2:(i:Int) - 10=v % 3:=by omega
      rw[if_pos e,e2,if_pos ⟨by omega,rfl⟩]
     ·rw[if_neg e,if_neg (by omega),if_neg (by omega)]
      omega
    ·simp only[h13,if_false]
     by_cases h14:i<14
     ·simp only[h14,if_true]
      rw[if_neg (by omega),if_neg (by omega),if_neg (by omega)]
     ·simp only[h14,if_false]
      by_cases e:i=(13+v).toNat
      ·by_cases hbb:b
       ·rw[if_pos ⟨hbb,e⟩,if_pos ⟨by omega,hb.mp hbb⟩]
       ·rw[if_neg (fun a=>hbb a.1),if_neg (by omega),if_neg (by omega),if_neg (fun a=>hbb (hb.mpr a.2))]
      ·rw[if_neg (fun a=>e a.2),if_neg (by omega),if_neg (by omega),if_neg (by omega)]
 by_cases hb:(k:Int)<s - 1
 ·rw[if_pos hb,wl_set _ (by omega),wl_set _ (by omega),wl_set _ (by omega)]
  refine wl_ext fun i hi => ?_
  have:=key i hi True (by simp[hb])
  simp only[true_and] at this
  exact this
 ·rw[if_neg hb,wl_set _ (by omega),wl_set _ (by omega)]
  refine wl_ext fun i hi => ?_
  have:=key i hi False (by simp[hb])
  simp only[false_and,if_false] at this
  exact this
theorem howMany_ev (h:List Int) (s c:Int) (hl:h.length=4) (hv:∀ i:Nat,i<4→okVal (rd h (i:Int))):Ev (fun k=>XZ.f k h s c) (cnt h 4 c):=by
 simp only[XZ.f]
 refine(back (n:=4) (Q:=fun i=>Ev (fun k=>XZ.l0 k c (cnt h i c) (i:Int) h s) (cnt h 4 c)) ?_ (fun i hi ih => ?_) 0 (Nat.zero_le _))
 ·refine Ev.shift ?_
  have c1:¬ (((4:Nat):Int)<(h.length:Int)):=by omega
  simp only[XZ.l0,c1,if_false]
  exact Ev.now _
 ·have c0:(0:Int)≤(i:Int):=by omega
  have c1:(i:Int)<(h.length:Int):=by omega
  have hb:=cnt_le h c i
  refine Ev.shift ?_
  simp only[cnt] at ih
  simp only[XZ.l0,c0,c1,if_true,succ64 hi (by omega)]
  rcases hv i hi with hz | ⟨h1,h6⟩
  ·have hn:XE.f (rd h (i:Int))=some false:=by rw[hz];rfl
   simp only[hn,Option.bind_some,Bool.false_eq_true,if_false,Xag.f]
   rw[if_neg (by rw[hz];simp)] at ih
   rw[w64 (n:=cnt h i c+0) (by omega) (by omega)]
   exact ih
  ·obtain⟨_,_,_,_,_,f6,f7⟩:=place_facts h1 h6
   simp only[f6,f7,Option.bind_some,if_true,Xag.f]
   by_cases e:rd h (i:Int) % 3=c
   ·rw[if_pos ⟨by omega,e⟩] at ih
    simp only[e,beq_self_eq_true,if_true,Option.bind_some]
    rw[w64 (n:=cnt h i c+1) (by omega) (by omega)]
    exact ih
   ·rw[if_neg (fun a=>e a.2)] at ih
    simp only[beq_iff_eq,e,if_false,Option.bind_some]
    rw[w64 (n:=cnt h i c+0) (by omega) (by omega)]
    exact ih
noncomputable def wds (h:List Int) (s:Int):List Int:=if okB h 0 s=true then wl (WF h s) else []
theorem Xbg (h:List Int) (s:Int) (hl:h.length≤1048576):Ev (fun k=>Xl.f k h s) (wds h s):=by
 simp only[Xl.f,wds]
 refine Ev.bind (Xa4 h s hl) ?_
 by_cases ok:okB h 0 s=true
 ·obtain⟨h4,s0,s5,hv⟩:=okB_elim ok
  simp only[ok,if_true,show (20:Nat)≤35184372088832 by decide]
  have hrep:List.replicate 20 (0:Int)=wl (SF h s 0):=by
   have:wl (SF h s 0)=wl (fun _=>0):=wl_ext fun i hi=>by
    simp only[SF,own,via,Nat.not_lt_zero,if_false]
    split<;>(try rfl) ; split<;>(try rfl) ; split<;>rfl
   rw[this];rfl
  rw[hrep]
  refine(back (n:=4) (Q:=fun k=>Ev (fun n=>Xl.l0 n (wl (SF h s k)) (k:Int) h s) (wl (WF h s))) ?_ (fun k hk ih => ?_) 0 (Nat.zero_le _))
  ·refine Ev.shift ?_
   simp only[Xl.l0,show ¬ (((4:Nat):Int)<4) by decide,if_false]
   have hc:∀ (c:Nat) (F:Nat→Int),c<3→Ev (fun n=>Xl.l1 n (wl (fun i=>if i=10+c then cnt h 4 (c:Int) else F i)) ((c+1:Nat):Int) h s) (wl (WF h s))→Ev (fun n=>Xl.l1 n (wl F) (c:Int) h s) (wl (WF h s)):=by
    intro c F hc hn
    obtain⟨f1,_⟩:=count_facts (c:=(c:Int)) (by omega) (by omega)
    refine Ev.shift ?_
    have c3:(c:Int)<3:=by omega
    simp only[Xl.l1,c3,if_true,f1,Option.bind_some]
    refine Ev.bind (howMany_ev h s (c:Int) h4 hv) ?_
    have c1:(0:Int)≤10+(c:Int):=by omega
    have c2:10+(c:Int)<((wl F).length:Int):=by rw[wl_length];omega
    have e:(10+(c:Int)).toNat=10+c:=by omega
    simp only[c1,c2,if_true,e,wl_set F (show 10+c<20 by omega),succ64 hc (by omega)]
    exact hn
   refine hc 0 _ (by decide) (hc 1 _ (by decide) (hc 2 _ (by decide) (Ev.shift ?_)))
   simp only[Xl.l1,show ¬ (((2+1:Nat):Int)<3) by decide,if_false,Xar.f,Option.bind_some,wl_length,show (0:Int)≤13 by decide,show (13:Int)<((20:Nat):Int) by decide,if_true,show (13:Int).toNat=13 from rfl,wl_set _ (show 13<20 by decide)]
   refine Ev.val (wl_ext fun i hi => ?_)
   simp only[SF,WF]
   by_cases i4:i<4
   ·rw[if_neg (by omega),if_neg (by omega),if_neg (by omega),if_neg (by omega)]
    simp only[i4,if_true]
   ·by_cases i10:i<10
    ·rw[if_neg (by omega),if_neg (by omega),if_neg (by omega),if_neg (by omega)]
     simp only[i4,i10,if_true,if_false]
    ·by_cases i13:i=13
     ·subst i13;simp
     ·by_cases i10':i=10
      ·subst i10';simp
      ·by_cases i11:i=11
       ·subst i11;simp
       ·by_cases i12:i=12
        ·subst i12;simp
        ·have:¬ i<14:=by omega
         have:¬ i<13:=by omega
         simp[*]
  ·have c0:(0:Int)≤(k:Int):=by omega
   have c4:(k:Int)<4:=by omega
   have c1:(k:Int)<(h.length:Int):=by omega
   have c2:(k:Int)<((wl (SF h s k)).length:Int):=by rw[wl_length];omega
   refine Ev.shift ?_
   simp only[Xl.l0,c0,c4,c1,c2,if_true,rowAt_fact hk,Option.bind_some,Int.toNat_natCast,succ64 hk (by omega)]
   rcases hv k hk with hz | ⟨h1,h6⟩
   ·simp only[hz,if_true]
    rw[SF_zero hk hz]
    exact ih
   ·obtain⟨f1,_,f3,_,_,_,_⟩:=place_facts h1 h6
    have hn:¬ rd h (k:Int)=0:=by omega
    have e1:(k:Int)+1=((k+1:Nat):Int):=by omega
    have ws:wrap64 (s - 1)=s - 1:=w64 (by omega) (by omega)
    have d0:0≤3+rd h (k:Int):=by omega
    have d1:3+rd h (k:Int)<(((20:Nat)):Int):=by omega
    have d2:0≤13+rd h (k:Int):=by omega
    have d3:13+rd h (k:Int)<(((20:Nat)):Int):=by omega
    have hS:=SF_val (h:=h) (s:=s) hk h1 h6
    simp only[hn,if_false,f1,f3,Option.bind_some,wl_length,d0,d1,d2,d3,if_true,ws]
    by_cases hb:(k:Int)<s - 1
    ·rw[if_pos hb] at hS
     simp only[hb,if_true,← e1]
     rw[hS]
     simp only[e1]
     exact ih
    ·rw[if_neg hb] at hS
     simp only[hb,if_false,← e1]
     rw[hS]
     simp only[e1]
     exact ih
 ·simp only[ok,if_false]
  exact Ev.now _
theorem XaZ (h:List Int) (s:Int) (hl:h.length≤1048576):Ev (fun k=>XK.f k h s) (wds h s):=by
 simp only[XK.f,wds]
 refine Ev.bind (Xa5 h s hl) ?_
 by_cases ok:okB h 0 s=true
 ·obtain⟨h4,s0,s5,hv⟩:=okB_elim ok
  simp only[ok,if_true,show (20:Nat)≤35184372088832 by decide,copy_int.f,Option.bind_some]
  have hrep:h.take (Nat.min h.length (List.replicate 20 (0:Int)).length) ++ (List.replicate 20 (0:Int)).drop (Nat.min h.length (List.replicate 20 (0:Int)).length)=wl (PF h s 0):=by
   match h,h4 with
   | [a,b,c,d],_=>rfl
  rw[hrep]
  have l4:(h.length:Int)=((4:Nat):Int):=by omega
  rw[l4]
  refine(back (n:=4) (Q:=fun k=>Ev (fun n=>XK.l0 n (wl (PF h s k)) h ((4:Nat):Int) (k:Int) h s) (wl (WF h s))) ?_ (fun k hk ih => ?_) 0 (Nat.zero_le _))
  ·refine Ev.shift ?_
   simp only[XK.l0,Int.lt_irrefl,if_false,Xaq.f,Option.bind_some,wl_length,show (0:Int)≤13 by decide,show (13:Int)<((20:Nat):Int) by decide,if_true,show (13:Int).toNat=13 from rfl,wl_set _ (show 13<20 by decide)]
   refine Ev.val (wl_ext fun i hi => ?_)
   simp only[PF,WF]
   by_cases i13:i=13
   ·subst i13;simp
   ·rw[if_neg i13]
    by_cases i14:i<14
    ·have:i<13:=by omega
     simp only[this,i14,if_true]
    ·simp only[i14,if_false]
  ·have c0:(0:Int)≤(k:Int):=by omega
   have c4:(k:Int)<((4:Nat):Int):=by omega
   have c1:(k:Int)<(h.length:Int):=by omega
   refine Ev.shift ?_
   simp only[XK.l0,c0,c4,c1,if_true,succ64 hk (by omega)]
   rcases hv k hk with hz | ⟨h1,h6⟩
   ·simp only[hz,if_true]
    rw[PF_zero hk hz]
    exact ih
   ·obtain⟨_,f2,_,f4,f5,_,_⟩:=place_facts h1 h6
    obtain⟨_,g2⟩:=count_facts (c:=rd h (k:Int) % 3) (by omega) (by omega)
    have hn:¬ rd h (k:Int)=0:=by omega
    have e1:(k:Int)+1=((k+1:Nat):Int):=by omega
    have ws:wrap64 (s - 1)=s - 1:=w64 (by omega) (by omega)
    have d0:0≤3+rd h (k:Int):=by omega
    have d1:3+rd h (k:Int)<(((20:Nat)):Int):=by omega
    have d2:0≤13+rd h (k:Int):=by omega
    have d3:13+rd h (k:Int)<(((20:Nat)):Int):=by omega
    have d4:0≤10+rd h (k:Int) % 3:=by omega
    have d5:10+rd h (k:Int) % 3<(((20:Nat)):Int):=by omega
    have hS:=PF_val (h:=h) (s:=s) hk h1 h6
    have hcb:=cnt_le h (rd h (k:Int) % 3) k
    have hrd:rd ((wl (PF h s k)).set (3+rd h (k:Int)).toNat ((k:Int)+1)) (10+rd h (k:Int) % 3)=cnt h k (rd h (k:Int) % 3):=by
     rw[wl_set _ (by omega),wl_rd _ (by omega) (by omega),if_neg (by omega)]
     simp only[PF]
     rw[if_neg (by omega),if_neg (by omega),if_pos (by omega)]
     congr 1
     omega
    have hw:wrap64 (cnt h k (rd h (k:Int) % 3)+1)=cnt h k (rd h (k:Int) % 3)+1:=w64 (by omega) (by omega)
    simp only[hn,if_false,f2,f4,f5,g2,Option.bind_some,wl_length,d0,d1,d2,d3,d4,d5,if_true,ws,← e1,hrd,hw]
    by_cases hb:(k:Int)<s - 1
    ·rw[if_pos hb] at hS
     simp only[hb,if_true]
     rw[hS]
     simp only[e1]
     exact ih
    ·rw[if_neg hb] at hS
     simp only[hb,if_false]
     rw[hS]
     simp only[e1]
     exact ih
 ·simp only[ok,if_false]
  exact Ev.now _
theorem wds_len (h:List Int) (s:Int):(wds h s).length=20 ∨ wds h s=[]:=by
 unfold wds
 split
 ·left;exact wl_length _
 ·right;rfl
end Go.Proofs.YthejoblnfpaojaaGreat.P
