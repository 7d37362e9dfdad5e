/- A part of the proof of the law FnExactReplay: texts of this seat, merged (words, printed functions of the program, plain lemmas). Conditions: none of its own. -/
import Derived.Test.YtmljebgideecjaaGreatP2kFnExactReplay14
import Derived.Test.YtmljebgideecjaaGreatP2kFnExactReplay15
import Derived.Test.YtmljebgideecjaaGreatP2kFnExactReplay16
import Derived.Test.YtmljebgideecjaaGreatP2kFnExactReplay17
import Derived.Test.YtmljebgideecjaaGreatP2kFnExactReplay18
import Derived.Test.YtmljebgideecjaaGreatP2kFnExactReplay19
set_option linter.unusedSimpArgs false
set_option linter.unusedVariables false
set_option maxHeartbeats 8000000
set_option maxRecDepth 100000
namespace Go.Proofs.YtmljebgideecjaaGreat.P2
open Go.Proofs.YtmljebgideecjaaGreatZ Go.RowKit Go.Proofs.YtmljebgideecjaaGreatW.PrintWords Go.Proofs.YtmljebgideecjaaGreatW.PrintLast Go.Proofs.YtmljebgideecjaaGreatW.PrintMore
attribute [local go_sem] max2_int min2_int max_two min_two max_three min_three max_four min_four   -- for this text's walks alone
def Xa5.f (a0:Int):Option (Int):=(XR.f a0).bind fun t101=>(if t101=true then (some (Int.tmod a0 3)) else (some (-1)))
theorem Xa5.calls (a0:Int) (r:Int) (w:World) (H:Xa5.f a0=some r) :
  Calls Tryz.prog 150 #[.int .i64 a0] w fun e w'=>e = .returned (.int .i64 r)∧Drawn0 w w':=by
 unfold Xa5.f at H
 replace H:=bE H;obtain⟨t101,A2,H⟩:=H
 go_enter Tryz.func150,Tryz.ntmps150
 cases t101
 case true =>
  rw[if_pos rfl] at H
  obtain rfl:=sI H
  go_wp2_with (refine gD 174 4 Tryz.func174 (XR.calls _ _ _ A2.out) ?_;intro nd)
  go_ret
  exact⟨by first | rfl | (simp;done) | (simp[*];done),dX⟩
 rw[if_neg nft] at H
 obtain rfl:=sI H
 go_wp2_with (refine gD 174 4 Tryz.func174 (XR.calls _ _ _ A2.out) ?_;intro nd)
 go_ret
 exact⟨by first | rfl | (simp;done) | (simp[*];done),dX⟩
end Go.Proofs.YtmljebgideecjaaGreat.P2
namespace Go.Proofs.YtmljebgideecjaaGreat.P2
open Go.RowKit Go.Proofs.YtmljebgideecjaaGreatW.PrintWords Go.Proofs.YtmljebgideecjaaGreatW.PrintLast Go.Proofs.YtmljebgideecjaaGreatZ
abbrev lWord:=S176
abbrev iWord:=S140
def cWord (x:lWord):iWord:=⟨x.f0,x.f1,x.f2⟩
theorem szWordS_eq (l:List lWord) (t:Int) (h0:0≤t) (h1:t≤1048576) (hl:l.length≤9223372036854775807):Xa1.f l t=some (lf (l.length:Int) t):=by
 have e:wrap64 (t - (l.length:Int))=t - l.length:=w64 (by omega) (by omega)
 unfold Xa1.f lf
 rw[e]
 by_cases h:(l.length:Int)≤t
 ·rw[if_neg (by omega),if_pos h]
 ·rw[if_pos (by omega),if_neg h]
theorem toWordS_ev (l:List lWord) (hl:l.length≤1048576):Ev (fun k=>X5.f k l) (l.map cWord):=by
 have c1:(0:Int)≤(l.length:Int):=by omega
 simp only[X5.f,c1,if_true,Int.toNat_natCast]
 refine Ev.pos (by omega) ?_
 refine fill_ev l cWord z140 (g:=fun k s i=>X5.l0 k l s i) ?_ ?_
 ·intro s hs
  refine Ev.shift ?_
  simp only[X5.l0,Int.lt_irrefl,if_false]
  exact Ev.now _
 ·intro s i x r hx hs hi h
  have hr:rd_T176 l (i:Int)=x:=getD_get hx
  refine Ev.shift ?_
  have d1:(i:Int)<(l.length:Int):=by omega
  have d2:(0:Int)≤(i:Int):=by omega
  have d3:(i:Int)<(s.length:Int):=by omega
  simp only[X5.l0,Xbk.f,Option.bind_some,d1,d2,d3,if_true,hr,Int.toNat_natCast,succ64 hi (by omega)]
  exact h
theorem eqWordS_ev (l:List iWord) (hl:l.length≤9223372036854775807):Ev (fun k=>Xv.f k l l) true:=by
 simp only[Xv.f,if_true]
 refine look_ev l true (g:=fun k i=>Xv.l0 k l l i) ?_ ?_
 ·refine Ev.shift ?_
  simp only[Xv.l0,Int.lt_irrefl,if_false]
  exact Ev.now _
 ·intro i x hx hi h
  refine Ev.shift ?_
  have d1:(i:Int)<(l.length:Int):=by omega
  have d2:(0:Int)≤(i:Int):=by omega
  simp only[Xv.l0,Xba.f,bne_self_eq_false,Bool.false_eq_true,if_false,Option.bind_some,d1,d2,if_true,succ64 hi hl]
  exact h
abbrev lEntry:=S224
abbrev iEntry:=S165
def cEntry (x:lEntry):iEntry:=⟨x.f0,x.f1,x.f2⟩
theorem szEntryS_eq (l:List lEntry) (t:Int) (h0:0≤t) (h1:t≤1048576) (hl:l.length≤9223372036854775807):XaT.f l t=some (lf (l.length:Int) t):=by
 have e:wrap64 (t - (l.length:Int))=t - l.length:=w64 (by omega) (by omega)
 unfold XaT.f lf
 rw[e]
 by_cases h:(l.length:Int)≤t
 ·rw[if_neg (by omega),if_pos h]
 ·rw[if_pos (by omega),if_neg h]
theorem toEntryS_ev (l:List lEntry) (hl:l.length≤1048576):Ev (fun k=>XY.f k l) (l.map cEntry):=by
 have c1:(0:Int)≤(l.length:Int):=by omega
 simp only[XY.f,c1,if_true,Int.toNat_natCast]
 refine Ev.pos (by omega) ?_
 refine fill_ev l cEntry z165 (g:=fun k s i=>XY.l0 k l s i) ?_ ?_
 ·intro s hs
  refine Ev.shift ?_
  simp only[XY.l0,Int.lt_irrefl,if_false]
  exact Ev.now _
 ·intro s i x r hx hs hi h
  have hr:rd_T224 l (i:Int)=x:=getD_get hx
  refine Ev.shift ?_
  have d1:(i:Int)<(l.length:Int):=by omega
  have d2:(0:Int)≤(i:Int):=by omega
  have d3:(i:Int)<(s.length:Int):=by omega
  simp only[XY.l0,Xbh.f,Option.bind_some,d1,d2,d3,if_true,hr,Int.toNat_natCast,succ64 hi (by omega)]
  exact h
theorem eqEntryS_ev (l:List iEntry) (hl:l.length≤9223372036854775807):Ev (fun k=>Xs.f k l l) true:=by
 simp only[Xs.f,if_true]
 refine look_ev l true (g:=fun k i=>Xs.l0 k l l i) ?_ ?_
 ·refine Ev.shift ?_
  simp only[Xs.l0,Int.lt_irrefl,if_false]
  exact Ev.now _
 ·intro i x hx hi h
  refine Ev.shift ?_
  have d1:(i:Int)<(l.length:Int):=by omega
  have d2:(0:Int)≤(i:Int):=by omega
  simp only[Xs.l0,Xa2.f,bne_self_eq_false,Bool.false_eq_true,if_false,Option.bind_some,d1,d2,if_true,succ64 hi hl]
  exact h
theorem lf_then {a b t:Int} {G:Int→Option Int} (ha:0≤a) (hb:0≤b) (ht:t≤1048576) (hG:∀ u,0≤u→u≤1048576→G u=some (lf b u)):(if lf a t<0 then some (-1) else G (lf a t))=some (lf (a+b) t):=by
 by_cases h:a≤t
 ·rw[lf_pos h,if_neg (by omega),hG _ (by omega) (by omega)]
  unfold lf
  by_cases h2:b≤t - a
  ·rw[if_pos h2,if_pos (by omega)];congr 1;omega
  ·rw[if_neg h2,if_neg (by omega)]
 ·rw[lf_neg h,if_pos (by decide),lf_neg (by omega)]
theorem lf_last {a t:Int} (ha:0≤a):(if lf a t<0 then some (-1) else some (lf a t))=some (lf a t):=by
 by_cases h:a≤t
 ·rw[lf_pos h,if_neg (by omega)]
 ·rw[lf_neg h,if_pos (by decide)]
theorem szRes_eq (a:Int) (l:List Int) (t:Int) (h0:0≤t) (h1:t≤1048576) (hl:l.length≤9223372036854775807):XaM.f a l t=some (lf (l.length:Int) t):=by
 simp only[XaM.f]
 rw[szIntS_eq l t h0 h1 hl,Option.bind_some]
 exact lf_last (by omega)
theorem toRes_ev (a:Int) (l:List Int) (hl:l.length≤1048576):Ev (fun k=>XaW.f k a l) (a,l):=by
 simp only[XaW.f]
 exact Ev.bind (toIntS_ev l hl) (Ev.now _)
theorem eqRes_ev (a:Int) (l:List Int) (hl:l.length≤9223372036854775807):Ev (fun k=>XaN.f k a l a l) true:=by
 simp only[XaN.f,if_true]
 refine Ev.bind (eqIntS_ev l hl) ?_
 simp only[if_true]
 exact Ev.now _
theorem ctl_mem {τ:Type} {ct:τ→Int} (h:∀ x,0≤ct x) {x:τ} : ∀ {l:List τ},x ∈ l→ct x≤ctl ct l
 | [],m=>by cases m
 | y :: l,m=>by
  have h1:=h y
  have h2:=ctl_nonneg h l
  simp only[ctl]
  rcases List.mem_cons.mp m with e | m
  ·rw[e];omega
  ·have:=ctl_mem h m;omega
abbrev lOp:=S116
abbrev iOp:=S69
def cOp (x:lOp):iOp:=⟨x.f0,x.f1,x.f2⟩
theorem szOpS_eq (l:List lOp) (t:Int) (h0:0≤t) (h1:t≤1048576) (hl:l.length≤9223372036854775807):Xbi.f l t=some (lf (l.length:Int) t):=by
 have e:wrap64 (t - (l.length:Int))=t - l.length:=w64 (by omega) (by omega)
 unfold Xbi.f lf
 rw[e]
 by_cases h:(l.length:Int)≤t
 ·rw[if_neg (by omega),if_pos h]
 ·rw[if_pos (by omega),if_neg h]
theorem toOpS_ev (l:List lOp) (hl:l.length≤1048576):Ev (fun k=>Xaj.f k l) (l.map cOp):=by
 have c1:(0:Int)≤(l.length:Int):=by omega
 simp only[Xaj.f,c1,if_true,Int.toNat_natCast]
 refine Ev.pos (by omega) ?_
 refine fill_ev l cOp z69 (g:=fun k s i=>Xaj.l0 k l s i) ?_ ?_
 ·intro s hs
  refine Ev.shift ?_
  simp only[Xaj.l0,Int.lt_irrefl,if_false]
  exact Ev.now _
 ·intro s i x r hx hs hi h
  have hr:rd_T116 l (i:Int)=x:=getD_get hx
  refine Ev.shift ?_
  have d1:(i:Int)<(l.length:Int):=by omega
  have d2:(0:Int)≤(i:Int):=by omega
  have d3:(i:Int)<(s.length:Int):=by omega
  simp only[Xaj.l0,Xa6.f,Option.bind_some,d1,d2,d3,if_true,hr,Int.toNat_natCast,succ64 hi (by omega)]
  exact h
theorem eqOpS_ev (l:List iOp) (hl:l.length≤9223372036854775807):Ev (fun k=>XL.f k l l) true:=by
 simp only[XL.f,if_true]
 refine look_ev l true (g:=fun k i=>XL.l0 k l l i) ?_ ?_
 ·refine Ev.shift ?_
  simp only[XL.l0,Int.lt_irrefl,if_false]
  exact Ev.now _
 ·intro i x hx hi h
  refine Ev.shift ?_
  have d1:(i:Int)<(l.length:Int):=by omega
  have d2:(0:Int)≤(i:Int):=by omega
  simp only[XL.l0,XaR.f,bne_self_eq_false,Bool.false_eq_true,if_false,Option.bind_some,d1,d2,if_true,succ64 hi hl]
  exact h
abbrev lPair:=S204
abbrev iPair:=S172
def cPair (x:lPair):iPair:=⟨x.f0,x.f1⟩
theorem szPairS_eq (l:List lPair) (t:Int) (h0:0≤t) (h1:t≤1048576) (hl:l.length≤9223372036854775807):XaL.f l t=some (lf (l.length:Int) t):=by
 have e:wrap64 (t - (l.length:Int))=t - l.length:=w64 (by omega) (by omega)
 unfold XaL.f lf
 rw[e]
 by_cases h:(l.length:Int)≤t
 ·rw[if_neg (by omega),if_pos h]
 ·rw[if_pos (by omega),if_neg h]
theorem toPairS_ev (l:List lPair) (hl:l.length≤1048576):Ev (fun k=>X6.f k l) (l.map cPair):=by
 have c1:(0:Int)≤(l.length:Int):=by omega
 simp only[X6.f,c1,if_true,Int.toNat_natCast]
 refine Ev.pos (by omega) ?_
 refine fill_ev l cPair z172 (g:=fun k s i=>X6.l0 k l s i) ?_ ?_
 ·intro s hs
  refine Ev.shift ?_
  simp only[X6.l0,Int.lt_irrefl,if_false]
  exact Ev.now _
 ·intro s i x r hx hs hi h
  have hr:rd_T204 l (i:Int)=x:=getD_get hx
  refine Ev.shift ?_
  have d1:(i:Int)<(l.length:Int):=by omega
  have d2:(0:Int)≤(i:Int):=by omega
  have d3:(i:Int)<(s.length:Int):=by omega
  simp only[X6.l0,Xbl.f,Option.bind_some,d1,d2,d3,if_true,hr,Int.toNat_natCast,succ64 hi (by omega)]
  exact h
theorem eqPairS_ev (l:List iPair) (hl:l.length≤9223372036854775807):Ev (fun k=>Xw.f k l l) true:=by
 simp only[Xw.f,if_true]
 refine look_ev l true (g:=fun k i=>Xw.l0 k l l i) ?_ ?_
 ·refine Ev.shift ?_
  simp only[Xw.l0,Int.lt_irrefl,if_false]
  exact Ev.now _
 ·intro i x hx hi h
  refine Ev.shift ?_
  have d1:(i:Int)<(l.length:Int):=by omega
  have d2:(0:Int)≤(i:Int):=by omega
  simp only[Xw.l0,Xbb.f,bne_self_eq_false,Bool.false_eq_true,if_false,Option.bind_some,d1,d2,if_true,succ64 hi hl]
  exact h
abbrev lHelp:=S206
abbrev iHelp:=S174
def cHelp (x:lHelp):iHelp:=⟨x.f0,x.f1,x.f2,x.f3⟩
theorem szHelpS_eq (l:List lHelp) (t:Int) (h0:0≤t) (h1:t≤1048576) (hl:l.length≤9223372036854775807):XaE.f l t=some (lf (l.length:Int) t):=by
 have e:wrap64 (t - (l.length:Int))=t - l.length:=w64 (by omega) (by omega)
 unfold XaE.f lf
 rw[e]
 by_cases h:(l.length:Int)≤t
 ·rw[if_neg (by omega),if_pos h]
 ·rw[if_pos (by omega),if_neg h]
theorem toHelpS_ev (l:List lHelp) (hl:l.length≤1048576):Ev (fun k=>X7.f k l) (l.map cHelp):=by
 have c1:(0:Int)≤(l.length:Int):=by omega
 simp only[X7.f,c1,if_true,Int.toNat_natCast]
 refine Ev.pos (by omega) ?_
 refine fill_ev l cHelp z174 (g:=fun k s i=>X7.l0 k l s i) ?_ ?_
 ·intro s hs
  refine Ev.shift ?_
  simp only[X7.l0,Int.lt_irrefl,if_false]
  exact Ev.now _
 ·intro s i x r hx hs hi h
  have hr:rd_T206 l (i:Int)=x:=getD_get hx
  refine Ev.shift ?_
  have d1:(i:Int)<(l.length:Int):=by omega
  have d2:(0:Int)≤(i:Int):=by omega
  have d3:(i:Int)<(s.length:Int):=by omega
  simp only[X7.l0,Xbm.f,Option.bind_some,d1,d2,d3,if_true,hr,Int.toNat_natCast,succ64 hi (by omega)]
  exact h
theorem eqHelpS_ev (l:List iHelp) (hl:l.length≤9223372036854775807):Ev (fun k=>Xx.f k l l) true:=by
 simp only[Xx.f,if_true]
 refine look_ev l true (g:=fun k i=>Xx.l0 k l l i) ?_ ?_
 ·refine Ev.shift ?_
  simp only[Xx.l0,Int.lt_irrefl,if_false]
  exact Ev.now _
 ·intro i x hx hi h
  refine Ev.shift ?_
  have d1:(i:Int)<(l.length:Int):=by omega
  have d2:(0:Int)≤(i:Int):=by omega
  simp only[Xx.l0,Xbc.f,bne_self_eq_false,Bool.false_eq_true,if_false,Option.bind_some,d1,d2,if_true,succ64 hi hl]
  exact h
end Go.Proofs.YtmljebgideecjaaGreat.P2
namespace Go.Proofs.YtmljebgideecjaaGreat.P2
open Go.Proofs.YtmljebgideecjaaGreatZ Go.RowKit Go.Proofs.YtmljebgideecjaaGreatW.PrintWords Go.Proofs.YtmljebgideecjaaGreatW.PrintLast Go.Proofs.YtmljebgideecjaaGreatW.PrintMore
attribute [local go_sem] max2_int min2_int max_two min_two max_three min_three max_four min_four   -- for this text's walks alone



def XbJ.f (a0:Int):Option (Int):=(XM.f a0).bind fun t101=>(if t101=true then (some (wrap64 (3+a0))) else (some (-1)))
def XbN.f (a0:Int):Option (Int):=(XM.f a0).bind fun t101=>(if t101=true then ((XbH.f).bind fun t102=>(some (wrap64 (t102+a0)))) else (some (-1)))
def XbK.f (a0:Int):Option (Int):=(XR.f a0).bind fun t101=>((Xbs.f t101 (wrap64 (3+a0))).bind fun t102=>(some t102))

def XbO.f (a0:Int):Option (Int):=(XR.f a0).bind fun t101=>((XbI.f).bind fun t102=>((Xbs.f t101 (wrap64 (t102+a0))).bind fun t103=>(some t103)))
end Go.Proofs.YtmljebgideecjaaGreat.P2
