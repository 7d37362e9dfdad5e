/- A part of the proof of the law FnStarts: texts of this seat, merged (words, printed functions of the program, plain lemmas). Conditions: none of its own. -/
import Derived.Test.YthejoblnfpaojaaGreatProg
import Derived.Below
import Derived.Deep.Draws
import Derived.Deep.AppendLies
import Derived.Maps.AppendAt
import Derived.OwnWalk
import Derived.Laws.BytesArg
import Derived.Laws.MakeOwn
import Derived.Laws.OwnMore
import Derived.Deep.OwnRows
import Derived.Tactics
import Derived.Lib.ConvBytes
import Derived.Laws.Slices
import Derived.WalkKit
import Derived.KernelRfl
import Derived.RowKit3
import Derived.Deep.LoopGhost
import Derived.Deep.QuietTactic
import Derived.BigQuiet
import Derived.WideLaws
import Derived.Deep.DeepCutAuto
import Derived.Deep.CutBlock
import Derived.Deep.RegionHeld3
import Derived.Laws.Rows
import Derived.Lib.AppendStr
import Derived.ArgAppend
import Derived.Laws.IdiomCopy
import Derived.OrdersHeld
import Derived.Laws.BitsLemmas
import Derived.RowKit
import Derived.Test.YthejoblnfpaojaaGreatPkFnStarts7
set_option linter.unusedSimpArgs false
set_option linter.unusedVariables false
set_option maxHeartbeats 8000000
set_option maxRecDepth 100000
namespace Go.Proofs.YthejoblnfpaojaaGreat.P
open Go.RowKit Go.Proofs.YthejoblnfpaojaaGreatW.PrintWords Go.Proofs.YthejoblnfpaojaaGreatW.PrintLast Go.Proofs.YthejoblnfpaojaaGreatW.PrintMore
attribute [local go_sem] max2_int min2_int max_two min_two max_three min_three max_four min_four   -- for this text's walks alone
def errW:Option Int→Value
 | none => .nilIface
 | some c => .iface 0 (.int .i64 c)
theorem errW_none:errW none = .nilIface:=rfl
theorem errW_some (c:Int):errW (some c) = .iface 0 (.int .i64 c):=rfl
theorem info3:(Tryz.prog.info? 3).map (fun i=>(i.zero,i.size,i.bytes))=some (some (.int .i64 0),1,8):=by kernel_rfl
theorem info51:(Tryz.prog.info? 51).map (fun i=>(i.zero,i.size,i.bytes))=some (some (.agg #[(.int .i64 0),(.int .i64 0),(.int .i64 0)]),3,24):=by kernel_rfl
theorem info58:(Tryz.prog.info? 58).map (fun i=>(i.zero,i.size,i.bytes))=some (some (.agg #[(.int .i64 0),(.int .i64 0),(.slice none 0 0),(.int .i64 0),(.slice none 0 0)]),5,72):=by kernel_rfl
theorem info78:(Tryz.prog.info? 78).map (fun i=>(i.zero,i.size,i.bytes))=some (some (.agg #[(.int .i64 0),(.int .i64 0),(.int .i64 0)]),3,24):=by kernel_rfl
theorem info80:(Tryz.prog.info? 80).map (fun i=>(i.zero,i.size,i.bytes))=some (some (.agg #[(.int .i64 0),(.int .i64 0),(.int .i64 0),(.int .i64 0),(.int .i64 0),(.int .i64 0),(.int .i64 0),(.int .i64 0),(.slice none 0 0)]),9,88):=by kernel_rfl
theorem info103:(Tryz.prog.info? 103).map (fun i=>(i.zero,i.size,i.bytes))=some (some (.slice none 0 0),1,24):=by kernel_rfl
theorem info108:(Tryz.prog.info? 108).map (fun i=>(i.zero,i.size,i.bytes))=some (some (.agg #[(.slice none 0 0),(.int .i64 0),(.bool false),(.slice none 0 0),(.slice none 0 0)]),5,88):=by kernel_rfl
structure S78 where
 f0:Int
 f1:Int
 f2:Int
def z78:S78:=⟨(0:Int),(0:Int),(0:Int)⟩
def k78:Kd S78:=Kd.iso (Kd.pair (Kd.int .i64) (Kd.pair (Kd.int .i64) (Kd.int .i64))) (fun x:S78=>(x.f0,x.f1,x.f2))
theorem k78_open {w:World} {x:S78} {cs:List Value} (h:k78.K w x cs):cs=[.int .i64 x.f0,.int .i64 x.f1,.int .i64 x.f2]:=by
 obtain⟨_,_,rfl,rfl,⟨_,_,rfl,rfl,rfl⟩⟩:=h
 exact rfl
theorem k78_mkM (w:World) (base:Nat) (ok:Nat→Prop) (x:S78)  : k78.M w base ok x [.int .i64 x.f0,.int .i64 x.f1,.int .i64 x.f2]:=⟨[.int .i64 x.f0],[.int .i64 x.f1,.int .i64 x.f2],rfl,rfl,⟨[.int .i64 x.f1],[.int .i64 x.f2],rfl,rfl,rfl⟩⟩
def rd_T78 (xs:List S78) (i:Int):S78:=xs.getD i.toNat z78
theorem at_T78 {w:World} {A:Option Addr} {n:Nat} {xs:List S78} (h:Kd.C k78 w A n xs) (i:Int) (h0:0≤i) (h1:i<n):∃ ad , A=some ad∧w.cell? (ad.add (i.toNat * 3))=some (.int .i64 (rd_T78 xs i).f0)∧w.cell? ⟨(ad.add (i.toNat * 3)).block,(ad.add (i.toNat * 3)).off+1,none⟩=some (.int .i64 (rd_T78 xs i).f1)∧w.cell? ⟨(ad.add (i.toNat * 3)).block,(ad.add (i.toNat * 3)).off+2,none⟩=some (.int .i64 (rd_T78 xs i).f2):=by
 obtain⟨ad,c,e,_,hK,hc0⟩:=Kd.C_get h z78 i h0 h1
 have hc:∀ j u,c[j]? = some u→w.cell? (ad.add (i.toNat * 3+j))=some u:=hc0
 obtain rfl:=k78_open hK
 exact⟨ad,e,hc 0 _ rfl,by rw[← add_field _ _ 1 (by omega)];exact hc 1 _ rfl,by rw[← add_field _ _ 2 (by omega)];exact hc 2 _ rfl⟩
def rd_L3 (xs:List (List S78)) (i:Int):(List S78):=xs.getD i.toNat ([]:List S78)
theorem at_L3 {w:World} {A:Option Addr} {n:Nat} {xs:List (List S78)} (h:Kd.C (Kd.slice 78 k78) w A n xs) (i:Int) (h0:0≤i) (h1:i<n):∃ ad A0 c0,A=some ad∧w.cell? (ad.add i.toNat)=some (.slice A0 (rd_L3 xs i).length c0)∧(rd_L3 xs i).length≤c0∧k78.C w A0 (rd_L3 xs i).length (rd_L3 xs i):=by
 obtain⟨ad,c,e,_,hK,hc0⟩:=Kd.C_get h ([]:List S78) i h0 h1
 have hc:∀ j u,c[j]? = some u→w.cell? (ad.add (i.toNat * 1+j))=some u:=hc0
 obtain⟨A0,c0,rfl,l0,g0⟩:=hK
 exact⟨ad,A0,c0,e,by have hq:=hc 0 _ rfl;rwa [Nat.mul_one,Nat.add_zero] at hq,l0,g0⟩
structure S63 where
 f0:Int
 f1:Int
 f2:Int
def z63:S63:=⟨(0:Int),(0:Int),(0:Int)⟩
def k63:Kd S63:=Kd.iso (Kd.pair (Kd.int .i64) (Kd.pair (Kd.int .i64) (Kd.int .i64))) (fun x:S63=>(x.f0,x.f1,x.f2))
theorem k63_open {w:World} {x:S63} {cs:List Value} (h:k63.K w x cs):cs=[.int .i64 x.f0,.int .i64 x.f1,.int .i64 x.f2]:=by
 obtain⟨_,_,rfl,rfl,⟨_,_,rfl,rfl,rfl⟩⟩:=h
 exact rfl
def rd_T63 (xs:List S63) (i:Int):S63:=xs.getD i.toNat z63
theorem at_T63 {w:World} {A:Option Addr} {n:Nat} {xs:List S63} (h:Kd.C k63 w A n xs) (i:Int) (h0:0≤i) (h1:i<n):∃ ad , A=some ad∧w.cell? (ad.add (i.toNat * 3))=some (.int .i64 (rd_T63 xs i).f0)∧w.cell? ⟨(ad.add (i.toNat * 3)).block,(ad.add (i.toNat * 3)).off+1,none⟩=some (.int .i64 (rd_T63 xs i).f1)∧w.cell? ⟨(ad.add (i.toNat * 3)).block,(ad.add (i.toNat * 3)).off+2,none⟩=some (.int .i64 (rd_T63 xs i).f2):=by
 obtain⟨ad,c,e,_,hK,hc0⟩:=Kd.C_get h z63 i h0 h1
 have hc:∀ j u,c[j]? = some u→w.cell? (ad.add (i.toNat * 3+j))=some u:=hc0
 obtain rfl:=k63_open hK
 exact⟨ad,e,hc 0 _ rfl,by rw[← add_field _ _ 1 (by omega)];exact hc 1 _ rfl,by rw[← add_field _ _ 2 (by omega)];exact hc 2 _ rfl⟩
structure S56 where
 f0:Int
 f1:(List Int)
def z56:S56:=⟨(0:Int),([]:List Int)⟩
def k56:Kd S56:=Kd.iso (Kd.pair (Kd.int .i64) (Kd.slice 3 (Kd.int .i64))) (fun x:S56=>(x.f0,x.f1))
theorem k56_open {w:World} {x:S56} {cs:List Value} (h:k56.K w x cs):∃ A1 c1,cs=[.int .i64 x.f0,.slice A1 x.f1.length c1]∧x.f1.length≤c1∧(Kd.int .i64).C w A1 x.f1.length x.f1:=by
 obtain⟨_,_,rfl,rfl,⟨A1,c1,rfl,l1,g1⟩⟩:=h
 exact⟨A1,c1,rfl,l1,g1⟩
theorem k56_mkM (w:World) (base:Nat) (ok:Nat→Prop) (x:S56) {v1:Value} (g1:(Kd.int .i64).R 3 w base ok v1 x.f1):k56.M w base ok x [.int .i64 x.f0,v1]:=⟨[.int .i64 x.f0],[v1],rfl,rfl,⟨v1,rfl,g1⟩⟩
structure S58 where
 f0:Int
 f1:Int
 f2:(List S63)
 f3:S56
def z58:S58:=⟨(0:Int),(0:Int),([]:List S63),z56⟩
def k58:Kd S58:=Kd.iso (Kd.pair (Kd.int .i64) (Kd.pair (Kd.int .i64) (Kd.pair (Kd.slice 63 k63) k56))) (fun x:S58=>(x.f0,x.f1,x.f2,x.f3))
theorem k58_open {w:World} {x:S58} {cs:List Value} (h:k58.K w x cs):∃ A2 c2 A4 c4,cs=[.int .i64 x.f0,.int .i64 x.f1,.slice A2 x.f2.length c2,.int .i64 x.f3.f0,.slice A4 x.f3.f1.length c4]∧x.f2.length≤c2∧k63.C w A2 x.f2.length x.f2∧x.f3.f1.length≤c4∧(Kd.int .i64).C w A4 x.f3.f1.length x.f3.f1:=by
 obtain⟨_,_,rfl,rfl,⟨_,_,rfl,rfl,⟨_,_,rfl,⟨A2,c2,rfl,l2,g2⟩,s3⟩⟩⟩:=h
 obtain⟨A4,c4,rfl,l4,g4⟩:=k56_open s3
 exact⟨A2,c2,A4,c4,rfl,l2,g2,l4,g4⟩
theorem k58_mkM (w:World) (base:Nat) (ok:Nat→Prop) (x:S58) {v2:Value} (g2:k63.R 63 w base ok v2 x.f2) {v4:Value} (g4:(Kd.int .i64).R 3 w base ok v4 x.f3.f1):k58.M w base ok x [.int .i64 x.f0,.int .i64 x.f1,v2,.int .i64 x.f3.f0,v4]:=⟨[.int .i64 x.f0],[.int .i64 x.f1,v2,.int .i64 x.f3.f0,v4],rfl,rfl,⟨[.int .i64 x.f1],[v2,.int .i64 x.f3.f0,v4],rfl,rfl,⟨[v2],[.int .i64 x.f3.f0,v4],rfl,⟨v2,rfl,g2⟩,(k56_mkM w base ok x.f3 g4)⟩⟩⟩
def rd_T58 (xs:List S58) (i:Int):S58:=xs.getD i.toNat z58
theorem at_T58 {w:World} {A:Option Addr} {n:Nat} {xs:List S58} (h:Kd.C k58 w A n xs) (i:Int) (h0:0≤i) (h1:i<n):∃ ad A2 c2 A4 c4,A=some ad∧w.cell? (ad.add (i.toNat * 5))=some (.int .i64 (rd_T58 xs i).f0)∧w.cell? ⟨(ad.add (i.toNat * 5)).block,(ad.add (i.toNat * 5)).off+1,none⟩=some (.int .i64 (rd_T58 xs i).f1)∧w.cell? ⟨(ad.add (i.toNat * 5)).block,(ad.add (i.toNat * 5)).off+2,none⟩=some (.slice A2 (rd_T58 xs i).f2.length c2)∧w.cell? ⟨(ad.add (i.toNat * 5)).block,(ad.add (i.toNat * 5)).off+3,none⟩=some (.int .i64 (rd_T58 xs i).f3.f0)∧w.cell? ⟨(ad.add (i.toNat * 5)).block,(ad.add (i.toNat * 5)).off+4,none⟩=some (.slice A4 (rd_T58 xs i).f3.f1.length c4)∧(rd_T58 xs i).f2.length≤c2∧k63.C w A2 (rd_T58 xs i).f2.length (rd_T58 xs i).f2∧(rd_T58 xs i).f3.f1.length≤c4∧(Kd.int .i64).C w A4 (rd_T58 xs i).f3.f1.length (rd_T58 xs i).f3.f1:=by
 obtain⟨ad,c,e,_,hK,hc0⟩:=Kd.C_get h z58 i h0 h1
 have hc:∀ j u,c[j]? = some u→w.cell? (ad.add (i.toNat * 5+j))=some u:=hc0
 obtain⟨A2,c2,A4,c4,rfl,l2,g2,l4,g4⟩:=k58_open hK
 exact⟨ad,A2,c2,A4,c4,e,hc 0 _ rfl,by rw[← add_field _ _ 1 (by omega)];exact hc 1 _ rfl,by rw[← add_field _ _ 2 (by omega)];exact hc 2 _ rfl,by rw[← add_field _ _ 3 (by omega)];exact hc 3 _ rfl,by rw[← add_field _ _ 4 (by omega)];exact hc 4 _ rfl,l2,g2,l4,g4⟩
structure S51 where
 f0:Int
 f1:Int
 f2:Int
def z51:S51:=⟨(0:Int),(0:Int),(0:Int)⟩
def k51:Kd S51:=Kd.iso (Kd.pair (Kd.int .i64) (Kd.pair (Kd.int .i64) (Kd.int .i64))) (fun x:S51=>(x.f0,x.f1,x.f2))
theorem k51_open {w:World} {x:S51} {cs:List Value} (h:k51.K w x cs):cs=[.int .i64 x.f0,.int .i64 x.f1,.int .i64 x.f2]:=by
 obtain⟨_,_,rfl,rfl,⟨_,_,rfl,rfl,rfl⟩⟩:=h
 exact rfl
theorem k51_mkM (w:World) (base:Nat) (ok:Nat→Prop) (x:S51)  : k51.M w base ok x [.int .i64 x.f0,.int .i64 x.f1,.int .i64 x.f2]:=⟨[.int .i64 x.f0],[.int .i64 x.f1,.int .i64 x.f2],rfl,rfl,⟨[.int .i64 x.f1],[.int .i64 x.f2],rfl,rfl,rfl⟩⟩
def rd_T51 (xs:List S51) (i:Int):S51:=xs.getD i.toNat z51
theorem at_T51 {w:World} {A:Option Addr} {n:Nat} {xs:List S51} (h:Kd.C k51 w A n xs) (i:Int) (h0:0≤i) (h1:i<n):∃ ad , A=some ad∧w.cell? (ad.add (i.toNat * 3))=some (.int .i64 (rd_T51 xs i).f0)∧w.cell? ⟨(ad.add (i.toNat * 3)).block,(ad.add (i.toNat * 3)).off+1,none⟩=some (.int .i64 (rd_T51 xs i).f1)∧w.cell? ⟨(ad.add (i.toNat * 3)).block,(ad.add (i.toNat * 3)).off+2,none⟩=some (.int .i64 (rd_T51 xs i).f2):=by
 obtain⟨ad,c,e,_,hK,hc0⟩:=Kd.C_get h z51 i h0 h1
 have hc:∀ j u,c[j]? = some u→w.cell? (ad.add (i.toNat * 3+j))=some u:=hc0
 obtain rfl:=k51_open hK
 exact⟨ad,e,hc 0 _ rfl,by rw[← add_field _ _ 1 (by omega)];exact hc 1 _ rfl,by rw[← add_field _ _ 2 (by omega)];exact hc 2 _ rfl⟩
structure S152 where
 f0:Int
 f1:Int
def z152:S152:=⟨(0:Int),(0:Int)⟩
def k152:Kd S152:=Kd.iso (Kd.pair (Kd.int .i64) (Kd.int .i64)) (fun x:S152=>(x.f0,x.f1))
theorem k152_open {w:World} {x:S152} {cs:List Value} (h:k152.K w x cs):cs=[.int .i64 x.f0,.int .i64 x.f1]:=by
 obtain⟨_,_,rfl,rfl,rfl⟩:=h
 exact rfl
def rd_T152 (xs:List S152) (i:Int):S152:=xs.getD i.toNat z152
theorem at_T152 {w:World} {A:Option Addr} {n:Nat} {xs:List S152} (h:Kd.C k152 w A n xs) (i:Int) (h0:0≤i) (h1:i<n):∃ ad , A=some ad∧w.cell? (ad.add (i.toNat * 2))=some (.int .i64 (rd_T152 xs i).f0)∧w.cell? ⟨(ad.add (i.toNat * 2)).block,(ad.add (i.toNat * 2)).off+1,none⟩=some (.int .i64 (rd_T152 xs i).f1):=by
 obtain⟨ad,c,e,_,hK,hc0⟩:=Kd.C_get h z152 i h0 h1
 have hc:∀ j u,c[j]? = some u→w.cell? (ad.add (i.toNat * 2+j))=some u:=hc0
 obtain rfl:=k152_open hK
 exact⟨ad,e,hc 0 _ rfl,by rw[← add_field _ _ 1 (by omega)];exact hc 1 _ rfl⟩
structure S154 where
 f0:Int
 f1:Int
 f2:Int
 f3:Int
def z154:S154:=⟨(0:Int),(0:Int),(0:Int),(0:Int)⟩
def k154:Kd S154:=Kd.iso (Kd.pair (Kd.int .i64) (Kd.pair (Kd.int .i64) (Kd.pair (Kd.int .i64) (Kd.int .i64)))) (fun x:S154=>(x.f0,x.f1,x.f2,x.f3))
theorem k154_open {w:World} {x:S154} {cs:List Value} (h:k154.K w x cs):cs=[.int .i64 x.f0,.int .i64 x.f1,.int .i64 x.f2,.int .i64 x.f3]:=by
 obtain⟨_,_,rfl,rfl,⟨_,_,rfl,rfl,⟨_,_,rfl,rfl,rfl⟩⟩⟩:=h
 exact rfl
def rd_T154 (xs:List S154) (i:Int):S154:=xs.getD i.toNat z154
theorem at_T154 {w:World} {A:Option Addr} {n:Nat} {xs:List S154} (h:Kd.C k154 w A n xs) (i:Int) (h0:0≤i) (h1:i<n):∃ ad , A=some ad∧w.cell? (ad.add (i.toNat * 4))=some (.int .i64 (rd_T154 xs i).f0)∧w.cell? ⟨(ad.add (i.toNat * 4)).block,(ad.add (i.toNat * 4)).off+1,none⟩=some (.int .i64 (rd_T154 xs i).f1)∧w.cell? ⟨(ad.add (i.toNat * 4)).block,(ad.add (i.toNat * 4)).off+2,none⟩=some (.int .i64 (rd_T154 xs i).f2)∧w.cell? ⟨(ad.add (i.toNat * 4)).block,(ad.add (i.toNat * 4)).off+3,none⟩=some (.int .i64 (rd_T154 xs i).f3):=by
 obtain⟨ad,c,e,_,hK,hc0⟩:=Kd.C_get h z154 i h0 h1
 have hc:∀ j u,c[j]? = some u→w.cell? (ad.add (i.toNat * 4+j))=some u:=hc0
 obtain rfl:=k154_open hK
 exact⟨ad,e,hc 0 _ rfl,by rw[← add_field _ _ 1 (by omega)];exact hc 1 _ rfl,by rw[← add_field _ _ 2 (by omega)];exact hc 2 _ rfl,by rw[← add_field _ _ 3 (by omega)];exact hc 3 _ rfl⟩
structure S108 where
 f0:(List S78)
 f1:Int
 f2:Bool
 f3:(List S152)
 f4:(List S154)
def z108:S108:=⟨([]:List S78),(0:Int),false,([]:List S152),([]:List S154)⟩
def k108:Kd S108:=Kd.iso (Kd.pair (Kd.slice 78 k78) (Kd.pair (Kd.int .i64) (Kd.pair Kd.bool (Kd.pair (Kd.slice 152 k152) (Kd.slice 154 k154))))) (fun x:S108=>(x.f0,x.f1,x.f2,x.f3,x.f4))
theorem k108_open {w:World} {x:S108} {cs:List Value} (h:k108.K w x cs):∃ A0 c0 A3 c3 A4 c4,cs=[.slice A0 x.f0.length c0,.int .i64 x.f1,.bool x.f2,.slice A3 x.f3.length c3,.slice A4 x.f4.length c4]∧x.f0.length≤c0∧k78.C w A0 x.f0.length x.f0∧x.f3.length≤c3∧k152.C w A3 x.f3.length x.f3∧x.f4.length≤c4∧k154.C w A4 x.f4.length x.f4:=by
 obtain⟨_,_,rfl,⟨A0,c0,rfl,l0,g0⟩,⟨_,_,rfl,rfl,⟨_,_,rfl,rfl,⟨_,_,rfl,⟨A3,c3,rfl,l3,g3⟩,⟨A4,c4,rfl,l4,g4⟩⟩⟩⟩⟩:=h
 exact⟨A0,c0,A3,c3,A4,c4,rfl,l0,g0,l3,g3,l4,g4⟩
theorem k108_mkM (w:World) (base:Nat) (ok:Nat→Prop) (x:S108) {v0:Value} (g0:k78.R 78 w base ok v0 x.f0) {v3:Value} (g3:k152.R 152 w base ok v3 x.f3) {v4:Value} (g4:k154.R 154 w base ok v4 x.f4):k108.M w base ok x [v0,.int .i64 x.f1,.bool x.f2,v3,v4]:=⟨[v0],[.int .i64 x.f1,.bool x.f2,v3,v4],rfl,⟨v0,rfl,g0⟩,⟨[.int .i64 x.f1],[.bool x.f2,v3,v4],rfl,rfl,⟨[.bool x.f2],[v3,v4],rfl,rfl,⟨[v3],[v4],rfl,⟨v3,rfl,g3⟩,⟨v4,rfl,g4⟩⟩⟩⟩⟩
def rd_T108 (xs:List S108) (i:Int):S108:=xs.getD i.toNat z108
theorem at_T108 {w:World} {A:Option Addr} {n:Nat} {xs:List S108} (h:Kd.C k108 w A n xs) (i:Int) (h0:0≤i) (h1:i<n):∃ ad A0 c0 A3 c3 A4 c4,A=some ad∧w.cell? (ad.add (i.toNat * 5))=some (.slice A0 (rd_T108 xs i).f0.length c0)∧w.cell? ⟨(ad.add (i.toNat * 5)).block,(ad.add (i.toNat * 5)).off+1,none⟩=some (.int .i64 (rd_T108 xs i).f1)∧w.cell? ⟨(ad.add (i.toNat * 5)).block,(ad.add (i.toNat * 5)).off+2,none⟩=some (.bool (rd_T108 xs i).f2)∧w.cell? ⟨(ad.add (i.toNat * 5)).block,(ad.add (i.toNat * 5)).off+3,none⟩=some (.slice A3 (rd_T108 xs i).f3.length c3)∧w.cell? ⟨(ad.add (i.toNat * 5)).block,(ad.add (i.toNat * 5)).off+4,none⟩=some (.slice A4 (rd_T108 xs i).f4.length c4)∧(rd_T108 xs i).f0.length≤c0∧k78.C w A0 (rd_T108 xs i).f0.length (rd_T108 xs i).f0∧(rd_T108 xs i).f3.length≤c3∧k152.C w A3 (rd_T108 xs i).f3.length (rd_T108 xs i).f3∧(rd_T108 xs i).f4.length≤c4∧k154.C w A4 (rd_T108 xs i).f4.length (rd_T108 xs i).f4:=by
 obtain⟨ad,c,e,_,hK,hc0⟩:=Kd.C_get h z108 i h0 h1
 have hc:∀ j u,c[j]? = some u→w.cell? (ad.add (i.toNat * 5+j))=some u:=hc0
 obtain⟨A0,c0,A3,c3,A4,c4,rfl,l0,g0,l3,g3,l4,g4⟩:=k108_open hK
 exact⟨ad,A0,c0,A3,c3,A4,c4,e,hc 0 _ rfl,by rw[← add_field _ _ 1 (by omega)];exact hc 1 _ rfl,by rw[← add_field _ _ 2 (by omega)];exact hc 2 _ rfl,by rw[← add_field _ _ 3 (by omega)];exact hc 3 _ rfl,by rw[← add_field _ _ 4 (by omega)];exact hc 4 _ rfl,l0,g0,l3,g3,l4,g4⟩
structure S80 where
 f0:Int
 f1:S78
 f2:Int
 f3:Int
 f4:Int
 f5:S56
def z80:S80:=⟨(0:Int),z78,(0:Int),(0:Int),(0:Int),z56⟩
def k80:Kd S80:=Kd.iso (Kd.pair (Kd.int .i64) (Kd.pair k78 (Kd.pair (Kd.int .i64) (Kd.pair (Kd.int .i64) (Kd.pair (Kd.int .i64) k56))))) (fun x:S80=>(x.f0,x.f1,x.f2,x.f3,x.f4,x.f5))
theorem k80_open {w:World} {x:S80} {cs:List Value} (h:k80.K w x cs):∃ A8 c8,cs=[.int .i64 x.f0,.int .i64 x.f1.f0,.int .i64 x.f1.f1,.int .i64 x.f1.f2,.int .i64 x.f2,.int .i64 x.f3,.int .i64 x.f4,.int .i64 x.f5.f0,.slice A8 x.f5.f1.length c8]∧x.f5.f1.length≤c8∧(Kd.int .i64).C w A8 x.f5.f1.length x.f5.f1:=by
 obtain⟨_,_,rfl,rfl,⟨_,_,rfl,s1,⟨_,_,rfl,rfl,⟨_,_,rfl,rfl,⟨_,_,rfl,rfl,s7⟩⟩⟩⟩⟩:=h
 obtain rfl:=k78_open s1
 obtain⟨A8,c8,rfl,l8,g8⟩:=k56_open s7
 exact⟨A8,c8,rfl,l8,g8⟩
def rd_T80 (xs:List S80) (i:Int):S80:=xs.getD i.toNat z80
theorem at_T80 {w:World} {A:Option Addr} {n:Nat} {xs:List S80} (h:Kd.C k80 w A n xs) (i:Int) (h0:0≤i) (h1:i<n):∃ ad A8 c8,A=some ad∧w.cell? (ad.add (i.toNat * 9))=some (.int .i64 (rd_T80 xs i).f0)∧w.cell? ⟨(ad.add (i.toNat * 9)).block,(ad.add (i.toNat * 9)).off+1,none⟩=some (.int .i64 (rd_T80 xs i).f1.f0)∧w.cell? ⟨(ad.add (i.toNat * 9)).block,(ad.add (i.toNat * 9)).off+2,none⟩=some (.int .i64 (rd_T80 xs i).f1.f1)∧w.cell? ⟨(ad.add (i.toNat * 9)).block,(ad.add (i.toNat * 9)).off+3,none⟩=some (.int .i64 (rd_T80 xs i).f1.f2)∧w.cell? ⟨(ad.add (i.toNat * 9)).block,(ad.add (i.toNat * 9)).off+4,none⟩=some (.int .i64 (rd_T80 xs i).f2)∧w.cell? ⟨(ad.add (i.toNat * 9)).block,(ad.add (i.toNat * 9)).off+5,none⟩=some (.int .i64 (rd_T80 xs i).f3)∧w.cell? ⟨(ad.add (i.toNat * 9)).block,(ad.add (i.toNat * 9)).off+6,none⟩=some (.int .i64 (rd_T80 xs i).f4)∧w.cell? ⟨(ad.add (i.toNat * 9)).block,(ad.add (i.toNat * 9)).off+7,none⟩=some (.int .i64 (rd_T80 xs i).f5.f0)∧w.cell? ⟨(ad.add (i.toNat * 9)).block,(ad.add (i.toNat * 9)).off+8,none⟩=some (.slice A8 (rd_T80 xs i).f5.f1.length c8)∧(rd_T80 xs i).f5.f1.length≤c8∧(Kd.int .i64).C w A8 (rd_T80 xs i).f5.f1.length (rd_T80 xs i).f5.f1:=by
 obtain⟨ad,c,e,_,hK,hc0⟩:=Kd.C_get h z80 i h0 h1
 have hc:∀ j u,c[j]? = some u→w.cell? (ad.add (i.toNat * 9+j))=some u:=hc0
 obtain⟨A8,c8,rfl,l8,g8⟩:=k80_open hK
 exact⟨ad,A8,c8,e,hc 0 _ rfl,by rw[← add_field _ _ 1 (by omega)];exact hc 1 _ rfl,by rw[← add_field _ _ 2 (by omega)];exact hc 2 _ rfl,by rw[← add_field _ _ 3 (by omega)];exact hc 3 _ rfl,by rw[← add_field _ _ 4 (by omega)];exact hc 4 _ rfl,by rw[← add_field _ _ 5 (by omega)];exact hc 5 _ rfl,by rw[← add_field _ _ 6 (by omega)];exact hc 6 _ rfl,by rw[← add_field _ _ 7 (by omega)];exact hc 7 _ rfl,by rw[← add_field _ _ 8 (by omega)];exact hc 8 _ rfl,l8,g8⟩
end Go.Proofs.YthejoblnfpaojaaGreat.P
namespace Go.Proofs.YthejoblnfpaojaaGreatZ
open Go.RowKit Go.Proofs.YthejoblnfpaojaaGreatW.PrintWords Go.Proofs.YthejoblnfpaojaaGreatW.PrintLast Go.Proofs.YthejoblnfpaojaaGreatW.PrintMore
abbrev fr (W : World) : World → Prop := fun w' => Below W.heap.size W w'
theorem fr_cell {W w' : World} (h : fr W w') (a : Addr) (hs : (W.cell? a).isSome = true) : w'.cell? a = W.cell? a := by
  obtain ⟨v, hv⟩ := Option.isSome_iff_exists.mp hs
  rw [hv]
  exact bc h hv
theorem bDN {w W : World} (h : Below w.heap.size w W) (n : Nat) : Below w.heap.size w (W.drewN n) := pw_below_drewN h n
section
variable {P : Program} {ops : Array Oper} {Q : Exit → Act → World → Prop} {md : Region.Mode} {ds : List Nat} {T : Bool × List (List Nat × List Nat)} {B : List Nat} {oi : Oper} {v : Value} {fuel n k N : Nat} {a a' : Act} {w W : World}
theorem sR0 {id : Nat} (n : Nat) (hT : rtab .any ops = T) (hB : waitsOk T.2 B = true) (h : Aside0 (rtab .any ops = T) → Aside0 (waitsOk T.2 B = true) → fr w w.drew → wpAnyLast P .any ops Q (fr w) [] n (bm n 0) a w.drew)
    (hm : P.follows .mixedOrders = true := by kernel_rfl) (hn : ops.size = n := by rfl) (hl : Array.replicate n false = bm n 0 := by kernel_rfl) : (Code.region id ops true).wp P Q a w :=
  start_ (S := fr w) (bm n 0) hm hn hl (below_drew1 (Below.refl _ _)) (h ⟨hT⟩ ⟨hB⟩)
theorem zA (i : Nat) (h : wpAnyLast P md ops Q (fr W) ds fuel (bm n (k + 2 ^ i)) a' w) (hT : rtab md ops = T := by exact HT_.out) (hi : ops[i]? = some oi := by rfl) (hN : oi.dst = some N := by rfl) (hc : anyT T (bm n k).toList (bm n (k + 2 ^ i)).toList i = true := by kernel_rfl)
    (hQ : ∀ c a w, Q (.panic c) (a.put oi.dst v) w → Q (.panic c) a w := by exact fun _ _ _ h => h) (hy : Yields P ops oi v a := by refine Or.inl ⟨by rfl, ?_⟩; intro w'; go_simp; with_reducible rfl)
    (ha : a.put (some N) v = a' := by simp only [Act.put, List.setIfInBounds_toArray, List.set_cons_zero, List.set_cons_succ, i64_w, i32_w]; rfl) : wpAnyLast P md ops Q (fr W) ds (fuel + 1) (bm n k) a w := pZ i N _ hT h hi hN hc hQ hy ha
theorem uA (i : Nat) (h : wpAnyLast P md ops Q (fr W) ds fuel (bm n (k + 2 ^ i)) a' w) (hT : rtab md ops = T := by exact HT_.out) (hi : ops[i]? = some oi := by rfl) (hN : oi.dst = some N := by rfl) (hc : anyT T (bm n k).toList (bm n (k + 2 ^ i)).toList i = true := by kernel_rfl)
    (hQ : ∀ c a w, Q (.panic c) (a.put oi.dst undef) w → Q (.panic c) a w := by exact fun _ _ _ h => h) (hy : Yields P ops oi undef a := by exact Or.inr ⟨by rfl, rfl⟩)
    (ha : a.put (some N) undef = a' := by simp only [Act.put, List.setIfInBounds_toArray, List.set_cons_zero, List.set_cons_succ, i64_w, i32_w]; rfl) : wpAnyLast P md ops Q (fr W) ds (fuel + 1) (bm n k) a w := pU i N _ hT h hi hN hc hQ hy ha
theorem tA (i : Nat) (h : wpAnyLast P md ops Q (fr W) ds fuel (bm n (k + 2 ^ i)) a' w) (hT : rtab md ops = T := by exact HT_.out) (hB : waitsOk T.2 B = true := by exact HW_.out) (hS : fr W w := by exact hHeld) (hi : ops[i]? = some oi := by rfl) (hN : oi.dst = some N := by rfl) (hc : takeW T B ds (bm n k).toList (bm n (k + 2 ^ i)).toList i = true := by kernel_rfl)
    (hQ : ∀ c a w, Q (.panic c) (a.put oi.dst v) w → Q (.panic c) a w := by exact fun _ _ _ h => h) (hy : YieldsIf P ops (fr W) oi v a := by refine Or.inl ⟨by rfl, ?_⟩; intro w' hs_; have hF_ := fr_cell hs_; clear hs_; go_simp; with_reducible rfl)
    (ha : a.put (some N) v = a' := by simp only [Act.put, List.setIfInBounds_toArray, List.set_cons_zero, List.set_cons_succ, i64_w, i32_w]; rfl) : wpAnyLast P md ops Q (fr W) ds (fuel + 1) (bm n k) a w := tZ i N _ hT hB hS h hi hN hc hQ hy ha
theorem oA (i : Nat) (h : ∀ K : Act → World → Prop, Shut (∀ a' w', fr W w' → (fr W w' → wpAnyLast P md ops Q (fr W) ds fuel (bm n (k + 2 ^ i)) a' w') → K a' w') → if Region.wanted oi (yielded ops a.tmps) = true then Oper.wp P oi a w K Q else K (a.put (some N) undef) w)
    (hT : rtab md ops = T := by exact HT_.out) (hi : ops[i]? = some oi := by rfl) (hN : oi.dst = some N := by rfl) (hc : (readyT T.2 (bm n k).toList == [i] && (bm n k).toList.set i true == (bm n (k + 2 ^ i)).toList) = true := by kernel_rfl) (hd : i ∉ ds := by decide) : wpAnyLast P md ops Q (fr W) ds (fuel + 1) (bm n k) a w := oZ i (some N) _ hT h hi hN hc hd
variable {f : FuncId} {fn : Func} {as_ : Array Operand} {ts : Array TypeId} {args : Array Value}
theorem eB (i : Nat) (hf : P.funcs[f]? = some fn) (c : Calls P f args w fun e w' => e = .returned v ∧ Below w.heap.size w w') (h : ∀ w', Below w.heap.size w w' → fr W w' → wpAnyLast P md ops Q (fr W) ds fuel (bm n (k + 2 ^ i)) a' w')
    (hS : fr W w := by exact hHeld) (hT : rtab md ops = T := by exact HT_.out) (hi : ops[i]? = some oi := by rfl) (hN : oi.dst = some N := by rfl) (hc : (readyT T.2 (bm n k).toList == [i] && (bm n k).toList.set i true == (bm n (k + 2 ^ i)).toList) = true := by kernel_rfl) (hd : i ∉ ds := by decide)
    (hname : (fn.name == "runtime.NumGoroutine") = false := by kernel_rfl) (hb : fn.body.isSome = true := by rfl) (hw : Region.wanted oi (yielded ops a.tmps) = true := by rfl) (hop : oi.op = .call { callee := .value (.func f), args := as_, argTypes := ts } := by rfl)
    (hargs : as_.map a.eval = args := by (try simp only [List.map_toArray, List.map_cons, List.map_nil]); first | done | rfl | (simp only [List.length_drop, List.length_take]; rfl))
    (ha : a.put (some N) v = a' := by simp only [Act.put, List.setIfInBounds_toArray, List.set_cons_zero, List.set_cons_succ, i64_w, i32_w]; rfl) : wpAnyLast P md ops Q (fr W) ds (fuel + 1) (bm n k) a w := by
  subst ha
  exact oZ i (some N) _ hT (fun K hK => goes_ hf hname hb args hw hN hop hargs (c.mono fun _ w' ⟨he, hb'⟩ => ⟨v, he, hK.out _ _ (below_step hS hb') (fun s => h w' hb' s)⟩)) hi hN hc hd
theorem eD (i : Nat) (hf : P.funcs[f]? = some fn) (c : Calls P f args w fun e w' => e = .returned v ∧ Drawn0 w w') (h : ∀ n_, fr W (w.drewN n_) → wpAnyLast P md ops Q (fr W) ds fuel (bm n (k + 2 ^ i)) a' (w.drewN n_))
    (hS : fr W w := by exact hHeld) (hT : rtab md ops = T := by exact HT_.out) (hi : ops[i]? = some oi := by rfl) (hN : oi.dst = some N := by rfl) (hc : (readyT T.2 (bm n k).toList == [i] && (bm n k).toList.set i true == (bm n (k + 2 ^ i)).toList) = true := by kernel_rfl) (hd : i ∉ ds := by decide)
    (hname : (fn.name == "runtime.NumGoroutine") = false := by kernel_rfl) (hb : fn.body.isSome = true := by rfl) (hw : Region.wanted oi (yielded ops a.tmps) = true := by rfl) (hop : oi.op = .call { callee := .value (.func f), args := as_, argTypes := ts } := by rfl)
    (hargs : as_.map a.eval = args := by (try simp only [List.map_toArray, List.map_cons, List.map_nil]); first | done | rfl | (simp only [List.length_drop, List.length_take]; rfl))
    (ha : a.put (some N) v = a' := by simp only [Act.put, List.setIfInBounds_toArray, List.set_cons_zero, List.set_cons_succ, i64_w, i32_w]; rfl) : wpAnyLast P md ops Q (fr W) ds (fuel + 1) (bm n k) a w := by
  subst ha
  exact oZ i (some N) _ hT (fun K hK => goes_ hf hname hb args hw hN hop hargs (c.mono fun _ _ ⟨he, hb'⟩ => by
    obtain ⟨n_, rfl⟩ := hb'
    exact ⟨v, he, hK.out _ _ (bDN hS n_) (fun s => h n_ s)⟩)) hi hN hc hd
theorem dA (h : Q .normal a w) (hT : rtab md ops = T := by exact HT_.out) (hr : (readyT T.2 (bm n k).toList == []) = true := by kernel_rfl) : wpAnyLast P md ops Q (fr W) ds fuel (bm n k) a w := done_ (done_of hT hr) h
end
section
variable {P : Program} {ops : Array Oper} {rest : List Oper} {o : Oper} {a : Act} {Q : Exit → Act → World → Prop} {W : World} {fn : Func} {as_ : Array Operand} {ts : Array TypeId} {args : Array Value} {v : Value}
theorem gB (f : FuncId) (N : Tmp) (hf : P.funcs[f]? = some fn) (c : Calls P f args W fun e w' => e = .returned v ∧ Below W.heap.size W w') (h : ∀ w', Below W.heap.size W w' → wpList P ops Q rest (a.put (some N) v) w')
    (hop : o.op = .call { callee := .value (.func f), args := as_, argTypes := ts } := by with_reducible rfl) (hd : o.dst = some N := by rfl) (hg : o.guard = none := by rfl)
    (hname : (fn.name == "runtime.NumGoroutine") = false := by kernel_rfl) (hb : fn.body.isSome = true := by rfl)
    (hargs : as_.map a.eval = args := by (try simp only [List.map_toArray, List.map_cons, List.map_nil]); first | done | rfl | (simp only [List.length_drop, List.length_take]; rfl)) : wpList P ops Q (o :: rest) a W :=
  goesL_ (some N) hd hg hf hname hb args hop hargs (c.mono fun _ w' ⟨he, hb'⟩ => ⟨v, he, h w' hb'⟩)
theorem gD (f : FuncId) (N : Tmp) (hf : P.funcs[f]? = some fn) (c : Calls P f args W fun e w' => e = .returned v ∧ Drawn0 W w') (h : ∀ n_, wpList P ops Q rest (a.put (some N) v) (W.drewN n_))
    (hop : o.op = .call { callee := .value (.func f), args := as_, argTypes := ts } := by with_reducible rfl) (hd : o.dst = some N := by rfl) (hg : o.guard = none := by rfl)
    (hname : (fn.name == "runtime.NumGoroutine") = false := by kernel_rfl) (hb : fn.body.isSome = true := by rfl)
    (hargs : as_.map a.eval = args := by (try simp only [List.map_toArray, List.map_cons, List.map_nil]); first | done | rfl | (simp only [List.length_drop, List.length_take]; rfl)) : wpList P ops Q (o :: rest) a W :=
  goesL_ (some N) hd hg hf hname hb args hop hargs (c.mono fun _ _ ⟨he, hb'⟩ => by
    obtain ⟨n_, rfl⟩ := hb'
    exact ⟨v, he, h n_⟩)
end
section
variable {w : World} {g : Nat} {t : TypeId}
theorem cV2 {a0 a1 : Value} (h : w.heap[g]? = some (.cells #[a0, a1] t (0, 0))) : w.cell? ⟨g, 0, none⟩ = some a0 ∧ w.cell? ⟨g, 1, none⟩ = some a1 := ⟨blk_cell h 0, blk_cell h 1⟩
theorem cV3 {a0 a1 a2 : Value} (h : w.heap[g]? = some (.cells #[a0, a1, a2] t (0, 0))) : w.cell? ⟨g, 0, none⟩ = some a0 ∧ w.cell? ⟨g, 1, none⟩ = some a1 ∧ w.cell? ⟨g, 2, none⟩ = some a2 := ⟨blk_cell h 0, blk_cell h 1, blk_cell h 2⟩
theorem cV5 {a0 a1 a2 a3 a4 : Value} (h : w.heap[g]? = some (.cells #[a0, a1, a2, a3, a4] t (0, 0))) : w.cell? ⟨g, 0, none⟩ = some a0 ∧ w.cell? ⟨g, 1, none⟩ = some a1 ∧ w.cell? ⟨g, 2, none⟩ = some a2 ∧ w.cell? ⟨g, 3, none⟩ = some a3 ∧ w.cell? ⟨g, 4, none⟩ = some a4 := ⟨blk_cell h 0, blk_cell h 1, blk_cell h 2, blk_cell h 3, blk_cell h 4⟩
theorem cV8 {a0 a1 a2 a3 a4 a5 a6 a7 : Value} (h : w.heap[g]? = some (.cells #[a0, a1, a2, a3, a4, a5, a6, a7] t (0, 0))) : w.cell? ⟨g, 0, none⟩ = some a0 ∧ w.cell? ⟨g, 1, none⟩ = some a1 ∧ w.cell? ⟨g, 2, none⟩ = some a2 ∧ w.cell? ⟨g, 3, none⟩ = some a3 ∧ w.cell? ⟨g, 4, none⟩ = some a4 ∧ w.cell? ⟨g, 5, none⟩ = some a5 ∧ w.cell? ⟨g, 6, none⟩ = some a6 ∧ w.cell? ⟨g, 7, none⟩ = some a7 := ⟨blk_cell h 0, blk_cell h 1, blk_cell h 2, blk_cell h 3, blk_cell h 4, blk_cell h 5, blk_cell h 6, blk_cell h 7⟩
end
theorem at_ic {w w' : World} {A : Option Addr} {n : Nat} {k : IntKind} {xs : List Int} (h : Aside0 ((Kd.int k).C w A n xs)) (b : Aside0 (Below w.heap.size w w')) (i : Int) (h0 : 0 ≤ i := by exact odA) (h1 : i < n := by exact odA) : ∃ ad, A = some ad ∧ (0 ≤ i) = True ∧ (i < n) = True ∧ w'.cell? (ad.add i.toNat) = some (.int k (rd xs i)) := by
  obtain ⟨ad, e, c⟩ := at_ib h.out b.out i h0 h1
  exact ⟨ad, e, eq_true h0, eq_true h1, c⟩
section
variable {α : Type} {p : Prop} [Decidable p] {A B : Option α} {r : α} {g : Prop}
theorem iN (hn : decide p = false → B = some r → g) (hp : decide p = true → A = some r → g) : (if p then A else B) = some r → g := by
  intro h
  by_cases c : p
  · rw [if_pos c] at h; exact hp (decide_eq_true c) h
  · rw [if_neg c] at h; exact hn (decide_eq_false c) h
theorem iP (hp : decide p = true → A = some r → g) (hn : decide p = false → B = some r → g) : (if p then A else B) = some r → g := iN hn hp
theorem ifQ (h : (if p then A else none) = some r) : decide p = true ∧ A = some r := by
  by_cases c : p
  · rw [if_pos c] at h; exact ⟨decide_eq_true c, h⟩
  · rw [if_neg c] at h; cases h
end
section
variable {α β : Type} [DecidableEq β] {a b : β} {A B : Option α} {r : α} {g : Prop}
theorem eN (hn : (a == b) = false → (a != b) = true → B = some r → g) (hp : (a == b) = true → (a != b) = false → A = some r → g) : (if a = b then A else B) = some r → g := by
  intro h
  by_cases c : a = b
  · rw [if_pos c] at h; exact hp (beq_iff_eq.mpr c) (by rw [bne_eq_false_iff_eq]; exact c) h
  · rw [if_neg c] at h; exact hn (beq_eq_false_iff_ne.mpr c) (by rw [bne_iff_ne]; exact c) h
theorem eP (hp : (a == b) = true → (a != b) = false → A = some r → g) (hn : (a == b) = false → (a != b) = true → B = some r → g) : (if a = b then A else B) = some r → g := eN hn hp
end
theorem fR {g : Prop} (f : g := by obtain rfl := sI H; go_wp2; go_ret; exact ⟨rE, (hX HB.out)⟩) : g := f
theorem fS {g : Prop} (f : g := by go_wp2; go_ret; exact ⟨rE, (hX HB.out)⟩) : g := f
end Go.Proofs.YthejoblnfpaojaaGreatZ
