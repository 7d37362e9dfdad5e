/- A part of the proof of the law FnExactReplay: texts of this seat, merged (words, printed functions of the program, plain lemmas). Conditions: none of its own. -/
import Derived.Test.YtmljebgideecjaaGreatP2kFnExactReplay11
import Derived.Test.YtmljebgideecjaaGreatP2kFnExactReplay12
import Derived.Test.YtmljebgideecjaaGreatP2kFnExactReplay13
set_option linter.unusedSimpArgs false
set_option linter.unusedVariables false
set_option maxHeartbeats 8000000
set_option maxRecDepth 100000
namespace Go.Proofs.YtmljebgideecjaaGreat.P2
open Go.Proofs.YtmljebgideecjaaGreatZ Go.RowKit Go.Proofs.YtmljebgideecjaaGreatW.PrintWords Go.Proofs.YtmljebgideecjaaGreatW.PrintLast Go.Proofs.YtmljebgideecjaaGreatW.PrintMore
attribute [local go_sem] max2_int min2_int max_two min_two max_three min_three max_four min_four   -- for this text's walks alone
def Xab.f (k:Nat) (l0_0:List Int) (a0_1:Int) (a1:Int):Option (Int):=(slices_Index_int_int.f k l0_0 a1).bind fun t102=>(some t102)
theorem Xab.calls (k:Nat) (A0_0:Option Addr) (c0_0:Nat) (l0_0:List Int) (a0_1:Int) (a1:Int) (r:Int) (w:World) (h0_0:Rw (Kd.int .i64) w A0_0 c0_0 l0_0) (H:Xab.f k l0_0 a0_1 a1=some r) :
  Calls Tryz.prog 199 #[.agg #[.slice A0_0 l0_0.length c0_0,.int .i64 a0_1],.int .i64 a1] w fun e w'=>e = .returned (.int .i64 r)∧Below w.heap.size w w':=by
 have hu41:=Tryz.underlying41
 obtain⟨HR0_0,HC0_0⟩:=h0_0
 have HB:=aM (Below.refl w.heap.size w)
 unfold Xab.f at H
 replace H:=bE H;obtain⟨t102,A3,H⟩:=H
 obtain rfl:=sI H
 go_enter Tryz.func199,Tryz.ntmps199
 go_wp2_with (first | (refine boxE 2 #[.slice A0_0 l0_0.length c0_0,.int .i64 a0_1] 41 ?_;intro gbz1 hg wz1 hbox hb;have BKz1:=aM (hbox);have GWz1:=aG hg HB;replace HB:=aS HB hb;clear hb hbox hg;have hczz1:=cZ2 BKz1.out) | (refine gD 209 8 Tryz.func209 (slices_Index_int_int.calls _ _ _ _ _ _ _ (cC HR0_0.out HB.out) HC0_0.out A3.out) ?_;intro nd))
 go_ret
 exact⟨rE,(hX HB.out)⟩
def XaH.f (k:Nat) (l0_0:List Int) (a0_1:Int) (a1:Int):Option (Int):=(Xau.f k l0_0 a1).bind fun t102=>(if t102<0 then (some (-1)) else (some t102))
theorem XaH.calls (k:Nat) (A0_0:Option Addr) (c0_0:Nat) (l0_0:List Int) (a0_1:Int) (a1:Int) (r:Int) (w:World) (h0_0:Rw (Kd.int .i64) w A0_0 c0_0 l0_0) (H:XaH.f k l0_0 a0_1 a1=some r) :
  Calls Tryz.prog 31 #[.agg #[.slice A0_0 l0_0.length c0_0,.int .i64 a0_1],.int .i64 a1] w fun e w'=>e = .returned (.int .i64 r)∧Below w.heap.size w w':=by
 have hu41:=Tryz.underlying41
 obtain⟨HR0_0,HC0_0⟩:=h0_0
 have HB:=aM (Below.refl w.heap.size w)
 unfold XaH.f at H
 replace H:=bE H;obtain⟨t102,A3,H⟩:=H
 go_enter Tryz.func31,Tryz.ntmps31
 go_wp2_with (first | (refine boxE 2 #[.slice A0_0 l0_0.length c0_0,.int .i64 a0_1] 41 ?_;intro gbz1 hg wz1 hbox hb;have BKz1:=aM (hbox);have GWz1:=aG hg HB;replace HB:=aS HB hb;clear hb hbox hg;have hczz1:=cZ2 BKz1.out) | (refine gD 79 8 Tryz.func79 (Xau.calls _ _ _ _ _ _ _ (rW HR0_0 HB HC0_0) A3.out) ?_;intro nd;refine Stop.out ?_))
 refine⟨?_⟩
 revert H;refine iP ?_ ?_<;>intro c4b0 H
 ·obtain rfl:=sI H
  exact fS
 exact fR
end Go.Proofs.YtmljebgideecjaaGreat.P2
namespace Go.Proofs.YtmljebgideecjaaGreat.P2
open Go.RowKit Go.Proofs.YtmljebgideecjaaGreatW.PrintWords Go.Proofs.YtmljebgideecjaaGreatW.PrintLast Go.Proofs.YtmljebgideecjaaGreatZ
theorem toIntS_ev (l:List Int) (hl:l.length≤1048576):Ev (fun k=>XO.f k l) l:=by
 have c1:(0:Int)≤(l.length:Int):=by omega
 have c2:l.length≤35184372088832:=by omega
 simp only[XO.f,c1,c2,if_true,Int.toNat_natCast]
 have h:=fill_ev l id (0:Int) (g:=fun k s i=>XO.l0 k l s i) ?_ ?_
 ·rw[List.map_id] at h
  exact h
 ·intro s hs
  refine Ev.shift ?_
  simp only[XO.l0,Int.lt_irrefl,if_false]
  exact Ev.now _
 ·intro s i x r hx hs hi h
  refine Ev.shift ?_
  have d1:(i:Int)<(l.length:Int):=by omega
  have d2:(0:Int)≤(i:Int):=by omega
  have d3:(i:Int)<(s.length:Int):=by omega
  simp only[XO.l0,d1,d2,d3,if_true,rd_get hx,Int.toNat_natCast,succ64 hi (by omega)]
  exact h
theorem eqIntS_ev (l:List Int) (hl:l.length≤9223372036854775807):Ev (fun k=>XP.f k l l) true:=by
 simp only[XP.f,if_true]
 refine look_ev l true (g:=fun k i=>XP.l0 k l l i) ?_ ?_
 ·refine Ev.shift ?_
  simp only[XP.l0,Int.lt_irrefl,if_false]
  exact Ev.now _
 ·intro i x hx hi h
  refine Ev.shift ?_
  have d1:(i:Int)<(l.length:Int):=by omega
  have d2:(0:Int)≤(i:Int):=by omega
  simp only[XP.l0,d1,d2,if_true,succ64 hi hl]
  exact h
theorem szIntS_eq (l:List Int) (t:Int) (h0:0≤t) (h1:t≤1048576) (hl:l.length≤9223372036854775807):Xar.f l t=some (lf (l.length:Int) t):=by
 have e:wrap64 (t - (l.length:Int))=t - l.length:=w64 (by omega) (by omega)
 unfold Xar.f lf
 rw[e]
 by_cases h:(l.length:Int)≤t
 ·rw[if_neg (by omega),if_pos h]
 ·rw[if_pos (by omega),if_neg h]
end Go.Proofs.YtmljebgideecjaaGreat.P2
namespace Go.Proofs.YtmljebgideecjaaGreat.P2
open Go.Proofs.YtmljebgideecjaaGreatZ Go.RowKit Go.Proofs.YtmljebgideecjaaGreatW.PrintWords Go.Proofs.YtmljebgideecjaaGreatW.PrintLast Go.Proofs.YtmljebgideecjaaGreatW.PrintMore
attribute [local go_sem] max2_int min2_int max_two min_two max_three min_three max_four min_four   -- for this text's walks alone



end Go.Proofs.YtmljebgideecjaaGreat.P2
namespace Go.Proofs.YtmljebgideecjaaGreat.P2
open Go.RowKit Go.Proofs.YtmljebgideecjaaGreatW.PrintWords Go.Proofs.YtmljebgideecjaaGreatW.PrintLast Go.Proofs.YtmljebgideecjaaGreatZ
theorem rdI_w {l:List Int} {i:Nat} (h:i<l.length):rd l (i:Int)=l[i]:=rd_get (List.getElem?_eq_getElem h)
theorem drop_eq_iff {x y:List Int} {i:Nat} (hx:i<x.length) (hy:i<y.length):x.drop i=y.drop i ↔ (rd x (i:Int)=rd y (i:Int)∧x.drop (i+1)=y.drop (i+1)):=by
 rw[List.drop_eq_getElem_cons hx,List.drop_eq_getElem_cons hy,rdI_w hx,rdI_w hy]
 exact List.cons_eq_cons
theorem equal_ev (x y:List Int) (hx:x.length≤9223372036854775807):Ev (fun k=>slices_Equal_int_int.f k x y) (decide (x=y)):=by
 simp only[slices_Equal_int_int.f]
 by_cases h:(x.length:Int)=(y.length:Int)
 ·have hl:x.length=y.length:=by omega
  refine Ev.pos h ?_
  have key:∀ i:Nat,i≤x.length→∃ r:Bool,(r=true ↔ x.drop i=y.drop i)∧Ev (fun k=>slices_Equal_int_int.l0 k x y (x.length:Int) (i:Int)) r:=by
   refine back ?_ fun i hi ih => ?_
   ·refine⟨true,?_,Ev.shift ?_⟩
    ·rw[List.drop_length,List.drop_eq_nil_of_le (by omega)];simp
    ·simp only[slices_Equal_int_int.l0,Int.lt_irrefl,if_false]
     exact Ev.now _
   ·obtain⟨r,h1,h2⟩:=ih
    have c0:(0:Int)≤(i:Int):=by omega
    have c1:(i:Int)<(x.length:Int):=by omega
    have c2:(i:Int)<(y.length:Int):=by omega
    have hd:=drop_eq_iff (x:=x) (y:=y) hi (by omega)
    by_cases he:rd x (i:Int)=rd y (i:Int)
    ·refine⟨r,by rw[h1,hd];exact⟨fun a=>⟨he,a⟩,fun a=>a.2⟩,Ev.shift ?_⟩
     simp only[slices_Equal_int_int.l0,c0,c1,c2,if_true,succ64 hi hx]
     exact Ev.pos he h2
    ·refine⟨false,by rw[hd];exact⟨fun a=>Bool.noConfusion a,fun a=>absurd a.1 he⟩,Ev.shift ?_⟩
     simp only[slices_Equal_int_int.l0,c0,c1,c2,if_true]
     exact Ev.neg he (Ev.now _)
  obtain⟨r,h1,h2⟩:=key 0 (Nat.zero_le _)
  refine h2.to ?_
  rw[List.drop_zero,List.drop_zero] at h1
  rw[Bool.eq_iff_iff,h1,decide_eq_true_iff]
 ·refine Ev.neg h (Ev.val ?_)
  rw[eq_comm,decide_eq_false_iff_not]
  intro e
  rw[e] at h
  exact h rfl
theorem ints_ev (x y:List Int) (hx:x.length≤1048576) (hy:y.length≤1048576):Ev (fun k=>XD.f k x y) (decide (x=y)):=by
 simp only[XD.f]
 have key:∀ i:Nat,i≤x.length→i≤y.length→∃ r:Bool,(r=true ↔ x.drop i=y.drop i)∧Ev (fun k=>XD.l0 k x y (i:Int)) r:=by
  refine back ?_ fun i hi ih => ?_
  ·intro hy2
   refine⟨((x.length:Int) == (y.length:Int)),?_,Ev.shift ?_⟩
   ·rw[List.drop_length,beq_iff_eq]
    constructor
    ·intro e;exact(List.drop_eq_nil_of_le (by omega)).symm
    ·intro e
     have e2:(y.drop x.length).length=0:=by rw[← e];rfl
     rw[List.length_drop] at e2
     omega
   ·simp only[XD.l0,Int.lt_irrefl,if_false]
    refine Ev.shift ?_
    simp only[XD.j1,Bool.false_eq_true,if_false]
    exact Ev.now _
  ·intro hy2
   have c0:(0:Int)≤(i:Int):=by omega
   have c1:(i:Int)<(x.length:Int):=by omega
   by_cases hyi:i<y.length
   ·have c2:(i:Int)<(y.length:Int):=by omega
    obtain⟨r,h1,h2⟩:=ih (by omega)
    have hd:=drop_eq_iff (x:=x) (y:=y) hi hyi
    by_cases he:rd x (i:Int)=rd y (i:Int)
    ·refine⟨r,by rw[h1,hd];exact⟨fun a=>⟨he,a⟩,fun a=>a.2⟩,Ev.shift ?_⟩
     simp only[XD.l0,c1,c2,decide_true,if_true]
     refine Ev.shift ?_
     simp only[XD.j1,c0,c1,c2,if_true,succ64 hi (by omega)]
     exact Ev.pos he h2
    ·refine⟨false,by rw[hd];exact⟨fun a=>Bool.noConfusion a,fun a=>absurd a.1 he⟩,Ev.shift ?_⟩
     simp only[XD.l0,c1,c2,decide_true,if_true]
     refine Ev.shift ?_
     simp only[XD.j1,c0,c1,c2,if_true]
     exact Ev.neg he (Ev.now _)
   ·have c2:¬ (i:Int)<(y.length:Int):=by omega
    refine⟨((x.length:Int) == (y.length:Int)),?_,Ev.shift ?_⟩
    ·rw[beq_iff_eq]
     constructor
     ·intro e;omega
     ·intro e
      have e2:(x.drop i).length=(y.drop i).length:=by rw[e]
      rw[List.length_drop,List.length_drop] at e2
      omega
    ·simp only[XD.l0,c1,c2,decide_false,if_true]
     refine Ev.shift ?_
     simp only[XD.j1,Bool.false_eq_true,if_false]
     exact Ev.now _
 obtain⟨r,h1,h2⟩:=key 0 (Nat.zero_le _) (Nat.zero_le _)
 refine h2.to ?_
 rw[List.drop_zero,List.drop_zero] at h1
 rw[Bool.eq_iff_iff,h1,decide_eq_true_iff]
end Go.Proofs.YtmljebgideecjaaGreat.P2
