/- A part of the proof of the law FnExactTold: texts of this seat, merged (words, printed functions of the program, plain lemmas). Conditions: none of its own. -/
import Derived.Test.YteamagejhbkhnaaProg
import Derived.Below
import Derived.Deep.Draws
import Derived.Deep.AppendLies
import Derived.Maps.AppendAt
import Derived.OwnWalk
import Derived.Laws.BytesArg
import Derived.Laws.MakeOwn
import Derived.Laws.OwnMore
import Derived.Deep.OwnRows
import Derived.Tactics
import Derived.Lib.ConvBytes
import Derived.Laws.Slices
import Derived.WalkKit
import Derived.KernelRfl
import Derived.RowKit3
import Derived.Deep.LoopGhost
import Derived.Deep.QuietTactic
import Derived.BigQuiet
import Derived.WideLaws
import Derived.Deep.DeepCutAuto
import Derived.Deep.CutBlock
import Derived.Deep.RegionHeld3
import Derived.Laws.Rows
import Derived.Lib.AppendStr
import Derived.ArgAppend
import Derived.Laws.IdiomCopy
import Derived.OrdersHeld
import Derived.Laws.BitsLemmas
import Derived.RowKit
import Derived.Test.YteamagejhbkhnaaPkFnExactTold4
set_option linter.unusedSimpArgs false
set_option linter.unusedVariables false
set_option maxHeartbeats 8000000
set_option maxRecDepth 100000
namespace Go.Proofs.Yteamagejhbkhnaa.P
open Go.RowKit Go.Proofs.YteamagejhbkhnaaW.PrintWords Go.Proofs.YteamagejhbkhnaaW.PrintLast Go.Proofs.YteamagejhbkhnaaW.PrintMore
attribute [local go_sem] max2_int min2_int max_two min_two max_three min_three max_four min_four   -- for this text's walks alone
def errW:Option Int→Value
 | none => .nilIface
 | some c => .iface 0 (.int .i64 c)
theorem errW_none:errW none = .nilIface:=rfl
theorem errW_some (c:Int):errW (some c) = .iface 0 (.int .i64 c):=rfl
theorem info3:(Try.prog.info? 3).map (fun i=>(i.zero,i.size,i.bytes))=some (some (.int .i64 0),1,8):=by kernel_rfl
theorem info56:(Try.prog.info? 56).map (fun i=>(i.zero,i.size,i.bytes))=some (some (.agg #[(.int .i64 0),(.int .i64 0),(.int .i64 0)]),3,24):=by kernel_rfl
theorem info59:(Try.prog.info? 59).map (fun i=>(i.zero,i.size,i.bytes))=some (some (.agg #[(.int .i64 0),(.int .i64 0),(.int .i64 0),(.int .i64 0),(.int .i64 0),(.int .i64 0),(.int .i64 0),(.int .i64 0),(.slice none 0 0)]),9,88):=by kernel_rfl
theorem info146:(Try.prog.info? 146).map (fun i=>(i.zero,i.size,i.bytes))=some (some (.agg #[(.slice none 0 0),(.int .i64 0),(.bool false),(.slice none 0 0),(.slice none 0 0)]),5,88):=by kernel_rfl
theorem info170:(Try.prog.info? 170).map (fun i=>(i.zero,i.size,i.bytes))=some (some (.agg #[(.int .i64 0),(.int .i64 0),(.int .i64 0)]),3,24):=by kernel_rfl
theorem info175:(Try.prog.info? 175).map (fun i=>(i.zero,i.size,i.bytes))=some (some (.agg #[(.int .i64 0),(.int .i64 0),(.slice none 0 0),(.int .i64 0),(.slice none 0 0)]),5,72):=by kernel_rfl
theorem info187:(Try.prog.info? 187).map (fun i=>(i.zero,i.size,i.bytes))=some (some (.agg #[(.int .i64 0),(.int .i64 0)]),2,16):=by kernel_rfl
theorem info189:(Try.prog.info? 189).map (fun i=>(i.zero,i.size,i.bytes))=some (some (.agg #[(.int .i64 0),(.int .i64 0),(.int .i64 0),(.int .i64 0)]),4,32):=by kernel_rfl
theorem info200:(Try.prog.info? 200).map (fun i=>(i.zero,i.size,i.bytes))=some (some (.agg #[(.int .i64 0),(.int .i64 0),(.int .i64 0)]),3,24):=by kernel_rfl
structure S56 where
 f0:Int
 f1:Int
 f2:Int
def z56:S56:=⟨(0:Int),(0:Int),(0:Int)⟩
def k56:Kd S56:=Kd.iso (Kd.pair (Kd.int .i64) (Kd.pair (Kd.int .i64) (Kd.int .i64))) (fun x:S56=>(x.f0,x.f1,x.f2))
theorem k56_open {w:World} {x:S56} {cs:List Value} (h:k56.K w x cs):cs=[.int .i64 x.f0,.int .i64 x.f1,.int .i64 x.f2]:=by
 obtain⟨_,_,rfl,rfl,⟨_,_,rfl,rfl,rfl⟩⟩:=h
 exact rfl
theorem k56_openM {w:World} {base:Nat} {ok:Nat→Prop} {x:S56} {cs:List Value} (h:k56.M w base ok x cs):cs=[.int .i64 x.f0,.int .i64 x.f1,.int .i64 x.f2]:=by
 obtain⟨_,_,rfl,rfl,⟨_,_,rfl,rfl,rfl⟩⟩:=h
 exact rfl
theorem k56_mkM (w:World) (base:Nat) (ok:Nat→Prop) (x:S56)  : k56.M w base ok x [.int .i64 x.f0,.int .i64 x.f1,.int .i64 x.f2]:=⟨[.int .i64 x.f0],[.int .i64 x.f1,.int .i64 x.f2],rfl,rfl,⟨[.int .i64 x.f1],[.int .i64 x.f2],rfl,rfl,rfl⟩⟩
def rd_T56 (xs:List S56) (i:Int):S56:=xs.getD i.toNat z56
theorem at_T56 {w:World} {A:Option Addr} {n:Nat} {xs:List S56} (h:Kd.C k56 w A n xs) (i:Int) (h0:0≤i) (h1:i<n):∃ ad , A=some ad∧w.cell? (ad.add (i.toNat * 3))=some (.int .i64 (rd_T56 xs i).f0)∧w.cell? ⟨(ad.add (i.toNat * 3)).block,(ad.add (i.toNat * 3)).off+1,none⟩=some (.int .i64 (rd_T56 xs i).f1)∧w.cell? ⟨(ad.add (i.toNat * 3)).block,(ad.add (i.toNat * 3)).off+2,none⟩=some (.int .i64 (rd_T56 xs i).f2):=by
 obtain⟨ad,c,e,_,hK,hc0⟩:=Kd.C_get h z56 i h0 h1
 have hc:∀ j u,c[j]? = some u→w.cell? (ad.add (i.toNat * 3+j))=some u:=hc0
 obtain rfl:=k56_open hK
 exact⟨ad,e,hc 0 _ rfl,by rw[← add_field _ _ 1 (by omega)];exact hc 1 _ rfl,by rw[← add_field _ _ 2 (by omega)];exact hc 2 _ rfl⟩
structure S57 where
 f0:Int
 f1:(List Int)
def z57:S57:=⟨(0:Int),([]:List Int)⟩
def k57:Kd S57:=Kd.iso (Kd.pair (Kd.int .i64) (Kd.slice 3 (Kd.int .i64))) (fun x:S57=>(x.f0,x.f1))
theorem k57_open {w:World} {x:S57} {cs:List Value} (h:k57.K w x cs):∃ A1 c1,cs=[.int .i64 x.f0,.slice A1 x.f1.length c1]∧x.f1.length≤c1∧(Kd.int .i64).C w A1 x.f1.length x.f1:=by
 obtain⟨_,_,rfl,rfl,⟨A1,c1,rfl,l1,g1⟩⟩:=h
 exact⟨A1,c1,rfl,l1,g1⟩
theorem k57_openM {w:World} {base:Nat} {ok:Nat→Prop} {x:S57} {cs:List Value} (h:k57.M w base ok x cs):∃ v1,cs=[.int .i64 x.f0,v1]∧(Kd.int .i64).R 3 w base ok v1 x.f1:=by
 obtain⟨_,_,rfl,rfl,⟨v1,rfl,g1⟩⟩:=h
 exact⟨v1,rfl,g1⟩
theorem k57_mkM (w:World) (base:Nat) (ok:Nat→Prop) (x:S57) {v1:Value} (g1:(Kd.int .i64).R 3 w base ok v1 x.f1):k57.M w base ok x [.int .i64 x.f0,v1]:=⟨[.int .i64 x.f0],[v1],rfl,rfl,⟨v1,rfl,g1⟩⟩
structure S59 where
 f0:Int
 f1:S56
 f2:Int
 f3:Int
 f4:Int
 f5:S57
def z59:S59:=⟨(0:Int),z56,(0:Int),(0:Int),(0:Int),z57⟩
def k59:Kd S59:=Kd.iso (Kd.pair (Kd.int .i64) (Kd.pair k56 (Kd.pair (Kd.int .i64) (Kd.pair (Kd.int .i64) (Kd.pair (Kd.int .i64) k57))))) (fun x:S59=>(x.f0,x.f1,x.f2,x.f3,x.f4,x.f5))
theorem k59_open {w:World} {x:S59} {cs:List Value} (h:k59.K w x cs):∃ A8 c8,cs=[.int .i64 x.f0,.int .i64 x.f1.f0,.int .i64 x.f1.f1,.int .i64 x.f1.f2,.int .i64 x.f2,.int .i64 x.f3,.int .i64 x.f4,.int .i64 x.f5.f0,.slice A8 x.f5.f1.length c8]∧x.f5.f1.length≤c8∧(Kd.int .i64).C w A8 x.f5.f1.length x.f5.f1:=by
 obtain⟨_,_,rfl,rfl,⟨_,_,rfl,s1,⟨_,_,rfl,rfl,⟨_,_,rfl,rfl,⟨_,_,rfl,rfl,s7⟩⟩⟩⟩⟩:=h
 obtain rfl:=k56_open s1
 obtain⟨A8,c8,rfl,l8,g8⟩:=k57_open s7
 exact⟨A8,c8,rfl,l8,g8⟩
theorem k59_openM {w:World} {base:Nat} {ok:Nat→Prop} {x:S59} {cs:List Value} (h:k59.M w base ok x cs):∃ v8,cs=[.int .i64 x.f0,.int .i64 x.f1.f0,.int .i64 x.f1.f1,.int .i64 x.f1.f2,.int .i64 x.f2,.int .i64 x.f3,.int .i64 x.f4,.int .i64 x.f5.f0,v8]∧(Kd.int .i64).R 3 w base ok v8 x.f5.f1:=by
 obtain⟨_,_,rfl,rfl,⟨_,_,rfl,s1,⟨_,_,rfl,rfl,⟨_,_,rfl,rfl,⟨_,_,rfl,rfl,s7⟩⟩⟩⟩⟩:=h
 obtain rfl:=k56_openM s1
 obtain⟨v8,rfl,g8⟩:=k57_openM s7
 exact⟨v8,rfl,g8⟩
theorem k59_mkM (w:World) (base:Nat) (ok:Nat→Prop) (x:S59) {v8:Value} (g8:(Kd.int .i64).R 3 w base ok v8 x.f5.f1):k59.M w base ok x [.int .i64 x.f0,.int .i64 x.f1.f0,.int .i64 x.f1.f1,.int .i64 x.f1.f2,.int .i64 x.f2,.int .i64 x.f3,.int .i64 x.f4,.int .i64 x.f5.f0,v8]:=⟨[.int .i64 x.f0],[.int .i64 x.f1.f0,.int .i64 x.f1.f1,.int .i64 x.f1.f2,.int .i64 x.f2,.int .i64 x.f3,.int .i64 x.f4,.int .i64 x.f5.f0,v8],rfl,rfl,⟨[.int .i64 x.f1.f0,.int .i64 x.f1.f1,.int .i64 x.f1.f2],[.int .i64 x.f2,.int .i64 x.f3,.int .i64 x.f4,.int .i64 x.f5.f0,v8],rfl,(k56_mkM w base ok x.f1 ),⟨[.int .i64 x.f2],[.int .i64 x.f3,.int .i64 x.f4,.int .i64 x.f5.f0,v8],rfl,rfl,⟨[.int .i64 x.f3],[.int .i64 x.f4,.int .i64 x.f5.f0,v8],rfl,rfl,⟨[.int .i64 x.f4],[.int .i64 x.f5.f0,v8],rfl,rfl,(k57_mkM w base ok x.f5 g8)⟩⟩⟩⟩⟩
def rd_T59 (xs:List S59) (i:Int):S59:=xs.getD i.toNat z59
theorem at_T59 {w:World} {A:Option Addr} {n:Nat} {xs:List S59} (h:Kd.C k59 w A n xs) (i:Int) (h0:0≤i) (h1:i<n):∃ ad A8 c8,A=some ad∧w.cell? (ad.add (i.toNat * 9))=some (.int .i64 (rd_T59 xs i).f0)∧w.cell? ⟨(ad.add (i.toNat * 9)).block,(ad.add (i.toNat * 9)).off+1,none⟩=some (.int .i64 (rd_T59 xs i).f1.f0)∧w.cell? ⟨(ad.add (i.toNat * 9)).block,(ad.add (i.toNat * 9)).off+2,none⟩=some (.int .i64 (rd_T59 xs i).f1.f1)∧w.cell? ⟨(ad.add (i.toNat * 9)).block,(ad.add (i.toNat * 9)).off+3,none⟩=some (.int .i64 (rd_T59 xs i).f1.f2)∧w.cell? ⟨(ad.add (i.toNat * 9)).block,(ad.add (i.toNat * 9)).off+4,none⟩=some (.int .i64 (rd_T59 xs i).f2)∧w.cell? ⟨(ad.add (i.toNat * 9)).block,(ad.add (i.toNat * 9)).off+5,none⟩=some (.int .i64 (rd_T59 xs i).f3)∧w.cell? ⟨(ad.add (i.toNat * 9)).block,(ad.add (i.toNat * 9)).off+6,none⟩=some (.int .i64 (rd_T59 xs i).f4)∧w.cell? ⟨(ad.add (i.toNat * 9)).block,(ad.add (i.toNat * 9)).off+7,none⟩=some (.int .i64 (rd_T59 xs i).f5.f0)∧w.cell? ⟨(ad.add (i.toNat * 9)).block,(ad.add (i.toNat * 9)).off+8,none⟩=some (.slice A8 (rd_T59 xs i).f5.f1.length c8)∧(rd_T59 xs i).f5.f1.length≤c8∧(Kd.int .i64).C w A8 (rd_T59 xs i).f5.f1.length (rd_T59 xs i).f5.f1:=by
 obtain⟨ad,c,e,_,hK,hc0⟩:=Kd.C_get h z59 i h0 h1
 have hc:∀ j u,c[j]? = some u→w.cell? (ad.add (i.toNat * 9+j))=some u:=hc0
 obtain⟨A8,c8,rfl,l8,g8⟩:=k59_open hK
 exact⟨ad,A8,c8,e,hc 0 _ rfl,by rw[← add_field _ _ 1 (by omega)];exact hc 1 _ rfl,by rw[← add_field _ _ 2 (by omega)];exact hc 2 _ rfl,by rw[← add_field _ _ 3 (by omega)];exact hc 3 _ rfl,by rw[← add_field _ _ 4 (by omega)];exact hc 4 _ rfl,by rw[← add_field _ _ 5 (by omega)];exact hc 5 _ rfl,by rw[← add_field _ _ 6 (by omega)];exact hc 6 _ rfl,by rw[← add_field _ _ 7 (by omega)];exact hc 7 _ rfl,by rw[← add_field _ _ 8 (by omega)];exact hc 8 _ rfl,l8,g8⟩
structure S49 where
 f0:Int
 f1:Int
 f2:Int
def z49:S49:=⟨(0:Int),(0:Int),(0:Int)⟩
def k49:Kd S49:=Kd.iso (Kd.pair (Kd.int .i64) (Kd.pair (Kd.int .i64) (Kd.int .i64))) (fun x:S49=>(x.f0,x.f1,x.f2))
theorem k49_open {w:World} {x:S49} {cs:List Value} (h:k49.K w x cs):cs=[.int .i64 x.f0,.int .i64 x.f1,.int .i64 x.f2]:=by
 obtain⟨_,_,rfl,rfl,⟨_,_,rfl,rfl,rfl⟩⟩:=h
 exact rfl
def rd_T49 (xs:List S49) (i:Int):S49:=xs.getD i.toNat z49
theorem at_T49 {w:World} {A:Option Addr} {n:Nat} {xs:List S49} (h:Kd.C k49 w A n xs) (i:Int) (h0:0≤i) (h1:i<n):∃ ad , A=some ad∧w.cell? (ad.add (i.toNat * 3))=some (.int .i64 (rd_T49 xs i).f0)∧w.cell? ⟨(ad.add (i.toNat * 3)).block,(ad.add (i.toNat * 3)).off+1,none⟩=some (.int .i64 (rd_T49 xs i).f1)∧w.cell? ⟨(ad.add (i.toNat * 3)).block,(ad.add (i.toNat * 3)).off+2,none⟩=some (.int .i64 (rd_T49 xs i).f2):=by
 obtain⟨ad,c,e,_,hK,hc0⟩:=Kd.C_get h z49 i h0 h1
 have hc:∀ j u,c[j]? = some u→w.cell? (ad.add (i.toNat * 3+j))=some u:=hc0
 obtain rfl:=k49_open hK
 exact⟨ad,e,hc 0 _ rfl,by rw[← add_field _ _ 1 (by omega)];exact hc 1 _ rfl,by rw[← add_field _ _ 2 (by omega)];exact hc 2 _ rfl⟩
structure S51 where
 f0:Int
 f1:(List Int)
def z51:S51:=⟨(0:Int),([]:List Int)⟩
def k51:Kd S51:=Kd.iso (Kd.pair (Kd.int .i64) (Kd.slice 3 (Kd.int .i64))) (fun x:S51=>(x.f0,x.f1))
theorem k51_open {w:World} {x:S51} {cs:List Value} (h:k51.K w x cs):∃ A1 c1,cs=[.int .i64 x.f0,.slice A1 x.f1.length c1]∧x.f1.length≤c1∧(Kd.int .i64).C w A1 x.f1.length x.f1:=by
 obtain⟨_,_,rfl,rfl,⟨A1,c1,rfl,l1,g1⟩⟩:=h
 exact⟨A1,c1,rfl,l1,g1⟩
structure S53 where
 f0:Int
 f1:S49
 f2:Int
 f3:Int
 f4:Int
 f5:S51
def z53:S53:=⟨(0:Int),z49,(0:Int),(0:Int),(0:Int),z51⟩
def k53:Kd S53:=Kd.iso (Kd.pair (Kd.int .i64) (Kd.pair k49 (Kd.pair (Kd.int .i64) (Kd.pair (Kd.int .i64) (Kd.pair (Kd.int .i64) k51))))) (fun x:S53=>(x.f0,x.f1,x.f2,x.f3,x.f4,x.f5))
theorem k53_open {w:World} {x:S53} {cs:List Value} (h:k53.K w x cs):∃ A8 c8,cs=[.int .i64 x.f0,.int .i64 x.f1.f0,.int .i64 x.f1.f1,.int .i64 x.f1.f2,.int .i64 x.f2,.int .i64 x.f3,.int .i64 x.f4,.int .i64 x.f5.f0,.slice A8 x.f5.f1.length c8]∧x.f5.f1.length≤c8∧(Kd.int .i64).C w A8 x.f5.f1.length x.f5.f1:=by
 obtain⟨_,_,rfl,rfl,⟨_,_,rfl,s1,⟨_,_,rfl,rfl,⟨_,_,rfl,rfl,⟨_,_,rfl,rfl,s7⟩⟩⟩⟩⟩:=h
 obtain rfl:=k49_open s1
 obtain⟨A8,c8,rfl,l8,g8⟩:=k51_open s7
 exact⟨A8,c8,rfl,l8,g8⟩
def rd_T53 (xs:List S53) (i:Int):S53:=xs.getD i.toNat z53
theorem at_T53 {w:World} {A:Option Addr} {n:Nat} {xs:List S53} (h:Kd.C k53 w A n xs) (i:Int) (h0:0≤i) (h1:i<n):∃ ad A8 c8,A=some ad∧w.cell? (ad.add (i.toNat * 9))=some (.int .i64 (rd_T53 xs i).f0)∧w.cell? ⟨(ad.add (i.toNat * 9)).block,(ad.add (i.toNat * 9)).off+1,none⟩=some (.int .i64 (rd_T53 xs i).f1.f0)∧w.cell? ⟨(ad.add (i.toNat * 9)).block,(ad.add (i.toNat * 9)).off+2,none⟩=some (.int .i64 (rd_T53 xs i).f1.f1)∧w.cell? ⟨(ad.add (i.toNat * 9)).block,(ad.add (i.toNat * 9)).off+3,none⟩=some (.int .i64 (rd_T53 xs i).f1.f2)∧w.cell? ⟨(ad.add (i.toNat * 9)).block,(ad.add (i.toNat * 9)).off+4,none⟩=some (.int .i64 (rd_T53 xs i).f2)∧w.cell? ⟨(ad.add (i.toNat * 9)).block,(ad.add (i.toNat * 9)).off+5,none⟩=some (.int .i64 (rd_T53 xs i).f3)∧w.cell? ⟨(ad.add (i.toNat * 9)).block,(ad.add (i.toNat * 9)).off+6,none⟩=some (.int .i64 (rd_T53 xs i).f4)∧w.cell? ⟨(ad.add (i.toNat * 9)).block,(ad.add (i.toNat * 9)).off+7,none⟩=some (.int .i64 (rd_T53 xs i).f5.f0)∧w.cell? ⟨(ad.add (i.toNat * 9)).block,(ad.add (i.toNat * 9)).off+8,none⟩=some (.slice A8 (rd_T53 xs i).f5.f1.length c8)∧(rd_T53 xs i).f5.f1.length≤c8∧(Kd.int .i64).C w A8 (rd_T53 xs i).f5.f1.length (rd_T53 xs i).f5.f1:=by
 obtain⟨ad,c,e,_,hK,hc0⟩:=Kd.C_get h z53 i h0 h1
 have hc:∀ j u,c[j]? = some u→w.cell? (ad.add (i.toNat * 9+j))=some u:=hc0
 obtain⟨A8,c8,rfl,l8,g8⟩:=k53_open hK
 exact⟨ad,A8,c8,e,hc 0 _ rfl,by rw[← add_field _ _ 1 (by omega)];exact hc 1 _ rfl,by rw[← add_field _ _ 2 (by omega)];exact hc 2 _ rfl,by rw[← add_field _ _ 3 (by omega)];exact hc 3 _ rfl,by rw[← add_field _ _ 4 (by omega)];exact hc 4 _ rfl,by rw[← add_field _ _ 5 (by omega)];exact hc 5 _ rfl,by rw[← add_field _ _ 6 (by omega)];exact hc 6 _ rfl,by rw[← add_field _ _ 7 (by omega)];exact hc 7 _ rfl,by rw[← add_field _ _ 8 (by omega)];exact hc 8 _ rfl,l8,g8⟩
structure S172 where
 f0:Int
 f1:Int
 f2:Int
def z172:S172:=⟨(0:Int),(0:Int),(0:Int)⟩
def k172:Kd S172:=Kd.iso (Kd.pair (Kd.int .i64) (Kd.pair (Kd.int .i64) (Kd.int .i64))) (fun x:S172=>(x.f0,x.f1,x.f2))
theorem k172_open {w:World} {x:S172} {cs:List Value} (h:k172.K w x cs):cs=[.int .i64 x.f0,.int .i64 x.f1,.int .i64 x.f2]:=by
 obtain⟨_,_,rfl,rfl,⟨_,_,rfl,rfl,rfl⟩⟩:=h
 exact rfl
def rd_T172 (xs:List S172) (i:Int):S172:=xs.getD i.toNat z172
theorem at_T172 {w:World} {A:Option Addr} {n:Nat} {xs:List S172} (h:Kd.C k172 w A n xs) (i:Int) (h0:0≤i) (h1:i<n):∃ ad , A=some ad∧w.cell? (ad.add (i.toNat * 3))=some (.int .i64 (rd_T172 xs i).f0)∧w.cell? ⟨(ad.add (i.toNat * 3)).block,(ad.add (i.toNat * 3)).off+1,none⟩=some (.int .i64 (rd_T172 xs i).f1)∧w.cell? ⟨(ad.add (i.toNat * 3)).block,(ad.add (i.toNat * 3)).off+2,none⟩=some (.int .i64 (rd_T172 xs i).f2):=by
 obtain⟨ad,c,e,_,hK,hc0⟩:=Kd.C_get h z172 i h0 h1
 have hc:∀ j u,c[j]? = some u→w.cell? (ad.add (i.toNat * 3+j))=some u:=hc0
 obtain rfl:=k172_open hK
 exact⟨ad,e,hc 0 _ rfl,by rw[← add_field _ _ 1 (by omega)];exact hc 1 _ rfl,by rw[← add_field _ _ 2 (by omega)];exact hc 2 _ rfl⟩
structure S202 where
 f0:Int
 f1:Int
 f2:Int
def z202:S202:=⟨(0:Int),(0:Int),(0:Int)⟩
def k202:Kd S202:=Kd.iso (Kd.pair (Kd.int .i64) (Kd.pair (Kd.int .i64) (Kd.int .i64))) (fun x:S202=>(x.f0,x.f1,x.f2))
theorem k202_open {w:World} {x:S202} {cs:List Value} (h:k202.K w x cs):cs=[.int .i64 x.f0,.int .i64 x.f1,.int .i64 x.f2]:=by
 obtain⟨_,_,rfl,rfl,⟨_,_,rfl,rfl,rfl⟩⟩:=h
 exact rfl
def rd_T202 (xs:List S202) (i:Int):S202:=xs.getD i.toNat z202
theorem at_T202 {w:World} {A:Option Addr} {n:Nat} {xs:List S202} (h:Kd.C k202 w A n xs) (i:Int) (h0:0≤i) (h1:i<n):∃ ad , A=some ad∧w.cell? (ad.add (i.toNat * 3))=some (.int .i64 (rd_T202 xs i).f0)∧w.cell? ⟨(ad.add (i.toNat * 3)).block,(ad.add (i.toNat * 3)).off+1,none⟩=some (.int .i64 (rd_T202 xs i).f1)∧w.cell? ⟨(ad.add (i.toNat * 3)).block,(ad.add (i.toNat * 3)).off+2,none⟩=some (.int .i64 (rd_T202 xs i).f2):=by
 obtain⟨ad,c,e,_,hK,hc0⟩:=Kd.C_get h z202 i h0 h1
 have hc:∀ j u,c[j]? = some u→w.cell? (ad.add (i.toNat * 3+j))=some u:=hc0
 obtain rfl:=k202_open hK
 exact⟨ad,e,hc 0 _ rfl,by rw[← add_field _ _ 1 (by omega)];exact hc 1 _ rfl,by rw[← add_field _ _ 2 (by omega)];exact hc 2 _ rfl⟩
structure S165 where
 f0:Int
 f1:Int
 f2:(List S202)
 f3:S51
def z165:S165:=⟨(0:Int),(0:Int),([]:List S202),z51⟩
def k165:Kd S165:=Kd.iso (Kd.pair (Kd.int .i64) (Kd.pair (Kd.int .i64) (Kd.pair (Kd.slice 202 k202) k51))) (fun x:S165=>(x.f0,x.f1,x.f2,x.f3))
theorem k165_open {w:World} {x:S165} {cs:List Value} (h:k165.K w x cs):∃ A2 c2 A4 c4,cs=[.int .i64 x.f0,.int .i64 x.f1,.slice A2 x.f2.length c2,.int .i64 x.f3.f0,.slice A4 x.f3.f1.length c4]∧x.f2.length≤c2∧k202.C w A2 x.f2.length x.f2∧x.f3.f1.length≤c4∧(Kd.int .i64).C w A4 x.f3.f1.length x.f3.f1:=by
 obtain⟨_,_,rfl,rfl,⟨_,_,rfl,rfl,⟨_,_,rfl,⟨A2,c2,rfl,l2,g2⟩,s3⟩⟩⟩:=h
 obtain⟨A4,c4,rfl,l4,g4⟩:=k51_open s3
 exact⟨A2,c2,A4,c4,rfl,l2,g2,l4,g4⟩
def rd_T165 (xs:List S165) (i:Int):S165:=xs.getD i.toNat z165
theorem at_T165 {w:World} {A:Option Addr} {n:Nat} {xs:List S165} (h:Kd.C k165 w A n xs) (i:Int) (h0:0≤i) (h1:i<n):∃ ad A2 c2 A4 c4,A=some ad∧w.cell? (ad.add (i.toNat * 5))=some (.int .i64 (rd_T165 xs i).f0)∧w.cell? ⟨(ad.add (i.toNat * 5)).block,(ad.add (i.toNat * 5)).off+1,none⟩=some (.int .i64 (rd_T165 xs i).f1)∧w.cell? ⟨(ad.add (i.toNat * 5)).block,(ad.add (i.toNat * 5)).off+2,none⟩=some (.slice A2 (rd_T165 xs i).f2.length c2)∧w.cell? ⟨(ad.add (i.toNat * 5)).block,(ad.add (i.toNat * 5)).off+3,none⟩=some (.int .i64 (rd_T165 xs i).f3.f0)∧w.cell? ⟨(ad.add (i.toNat * 5)).block,(ad.add (i.toNat * 5)).off+4,none⟩=some (.slice A4 (rd_T165 xs i).f3.f1.length c4)∧(rd_T165 xs i).f2.length≤c2∧k202.C w A2 (rd_T165 xs i).f2.length (rd_T165 xs i).f2∧(rd_T165 xs i).f3.f1.length≤c4∧(Kd.int .i64).C w A4 (rd_T165 xs i).f3.f1.length (rd_T165 xs i).f3.f1:=by
 obtain⟨ad,c,e,_,hK,hc0⟩:=Kd.C_get h z165 i h0 h1
 have hc:∀ j u,c[j]? = some u→w.cell? (ad.add (i.toNat * 5+j))=some u:=hc0
 obtain⟨A2,c2,A4,c4,rfl,l2,g2,l4,g4⟩:=k165_open hK
 exact⟨ad,A2,c2,A4,c4,e,hc 0 _ rfl,by rw[← add_field _ _ 1 (by omega)];exact hc 1 _ rfl,by rw[← add_field _ _ 2 (by omega)];exact hc 2 _ rfl,by rw[← add_field _ _ 3 (by omega)];exact hc 3 _ rfl,by rw[← add_field _ _ 4 (by omega)];exact hc 4 _ rfl,l2,g2,l4,g4⟩
structure S193 where
 f0:Int
 f1:Int
def z193:S193:=⟨(0:Int),(0:Int)⟩
def k193:Kd S193:=Kd.iso (Kd.pair (Kd.int .i64) (Kd.int .i64)) (fun x:S193=>(x.f0,x.f1))
theorem k193_open {w:World} {x:S193} {cs:List Value} (h:k193.K w x cs):cs=[.int .i64 x.f0,.int .i64 x.f1]:=by
 obtain⟨_,_,rfl,rfl,rfl⟩:=h
 exact rfl
def rd_T193 (xs:List S193) (i:Int):S193:=xs.getD i.toNat z193
theorem at_T193 {w:World} {A:Option Addr} {n:Nat} {xs:List S193} (h:Kd.C k193 w A n xs) (i:Int) (h0:0≤i) (h1:i<n):∃ ad , A=some ad∧w.cell? (ad.add (i.toNat * 2))=some (.int .i64 (rd_T193 xs i).f0)∧w.cell? ⟨(ad.add (i.toNat * 2)).block,(ad.add (i.toNat * 2)).off+1,none⟩=some (.int .i64 (rd_T193 xs i).f1):=by
 obtain⟨ad,c,e,_,hK,hc0⟩:=Kd.C_get h z193 i h0 h1
 have hc:∀ j u,c[j]? = some u→w.cell? (ad.add (i.toNat * 2+j))=some u:=hc0
 obtain rfl:=k193_open hK
 exact⟨ad,e,hc 0 _ rfl,by rw[← add_field _ _ 1 (by omega)];exact hc 1 _ rfl⟩
structure S195 where
 f0:Int
 f1:Int
 f2:Int
 f3:Int
def z195:S195:=⟨(0:Int),(0:Int),(0:Int),(0:Int)⟩
def k195:Kd S195:=Kd.iso (Kd.pair (Kd.int .i64) (Kd.pair (Kd.int .i64) (Kd.pair (Kd.int .i64) (Kd.int .i64)))) (fun x:S195=>(x.f0,x.f1,x.f2,x.f3))
theorem k195_open {w:World} {x:S195} {cs:List Value} (h:k195.K w x cs):cs=[.int .i64 x.f0,.int .i64 x.f1,.int .i64 x.f2,.int .i64 x.f3]:=by
 obtain⟨_,_,rfl,rfl,⟨_,_,rfl,rfl,⟨_,_,rfl,rfl,rfl⟩⟩⟩:=h
 exact rfl
def rd_T195 (xs:List S195) (i:Int):S195:=xs.getD i.toNat z195
theorem at_T195 {w:World} {A:Option Addr} {n:Nat} {xs:List S195} (h:Kd.C k195 w A n xs) (i:Int) (h0:0≤i) (h1:i<n):∃ ad , A=some ad∧w.cell? (ad.add (i.toNat * 4))=some (.int .i64 (rd_T195 xs i).f0)∧w.cell? ⟨(ad.add (i.toNat * 4)).block,(ad.add (i.toNat * 4)).off+1,none⟩=some (.int .i64 (rd_T195 xs i).f1)∧w.cell? ⟨(ad.add (i.toNat * 4)).block,(ad.add (i.toNat * 4)).off+2,none⟩=some (.int .i64 (rd_T195 xs i).f2)∧w.cell? ⟨(ad.add (i.toNat * 4)).block,(ad.add (i.toNat * 4)).off+3,none⟩=some (.int .i64 (rd_T195 xs i).f3):=by
 obtain⟨ad,c,e,_,hK,hc0⟩:=Kd.C_get h z195 i h0 h1
 have hc:∀ j u,c[j]? = some u→w.cell? (ad.add (i.toNat * 4+j))=some u:=hc0
 obtain rfl:=k195_open hK
 exact⟨ad,e,hc 0 _ rfl,by rw[← add_field _ _ 1 (by omega)];exact hc 1 _ rfl,by rw[← add_field _ _ 2 (by omega)];exact hc 2 _ rfl,by rw[← add_field _ _ 3 (by omega)];exact hc 3 _ rfl⟩
structure S139 where
 f0:(List S49)
 f1:Int
 f2:Bool
 f3:(List S193)
 f4:(List S195)
def z139:S139:=⟨([]:List S49),(0:Int),false,([]:List S193),([]:List S195)⟩
def k139:Kd S139:=Kd.iso (Kd.pair (Kd.slice 49 k49) (Kd.pair (Kd.int .i64) (Kd.pair Kd.bool (Kd.pair (Kd.slice 193 k193) (Kd.slice 195 k195))))) (fun x:S139=>(x.f0,x.f1,x.f2,x.f3,x.f4))
theorem k139_open {w:World} {x:S139} {cs:List Value} (h:k139.K w x cs):∃ A0 c0 A3 c3 A4 c4,cs=[.slice A0 x.f0.length c0,.int .i64 x.f1,.bool x.f2,.slice A3 x.f3.length c3,.slice A4 x.f4.length c4]∧x.f0.length≤c0∧k49.C w A0 x.f0.length x.f0∧x.f3.length≤c3∧k193.C w A3 x.f3.length x.f3∧x.f4.length≤c4∧k195.C w A4 x.f4.length x.f4:=by
 obtain⟨_,_,rfl,⟨A0,c0,rfl,l0,g0⟩,⟨_,_,rfl,rfl,⟨_,_,rfl,rfl,⟨_,_,rfl,⟨A3,c3,rfl,l3,g3⟩,⟨A4,c4,rfl,l4,g4⟩⟩⟩⟩⟩:=h
 exact⟨A0,c0,A3,c3,A4,c4,rfl,l0,g0,l3,g3,l4,g4⟩
def rd_T139 (xs:List S139) (i:Int):S139:=xs.getD i.toNat z139
theorem at_T139 {w:World} {A:Option Addr} {n:Nat} {xs:List S139} (h:Kd.C k139 w A n xs) (i:Int) (h0:0≤i) (h1:i<n):∃ ad A0 c0 A3 c3 A4 c4,A=some ad∧w.cell? (ad.add (i.toNat * 5))=some (.slice A0 (rd_T139 xs i).f0.length c0)∧w.cell? ⟨(ad.add (i.toNat * 5)).block,(ad.add (i.toNat * 5)).off+1,none⟩=some (.int .i64 (rd_T139 xs i).f1)∧w.cell? ⟨(ad.add (i.toNat * 5)).block,(ad.add (i.toNat * 5)).off+2,none⟩=some (.bool (rd_T139 xs i).f2)∧w.cell? ⟨(ad.add (i.toNat * 5)).block,(ad.add (i.toNat * 5)).off+3,none⟩=some (.slice A3 (rd_T139 xs i).f3.length c3)∧w.cell? ⟨(ad.add (i.toNat * 5)).block,(ad.add (i.toNat * 5)).off+4,none⟩=some (.slice A4 (rd_T139 xs i).f4.length c4)∧(rd_T139 xs i).f0.length≤c0∧k49.C w A0 (rd_T139 xs i).f0.length (rd_T139 xs i).f0∧(rd_T139 xs i).f3.length≤c3∧k193.C w A3 (rd_T139 xs i).f3.length (rd_T139 xs i).f3∧(rd_T139 xs i).f4.length≤c4∧k195.C w A4 (rd_T139 xs i).f4.length (rd_T139 xs i).f4:=by
 obtain⟨ad,c,e,_,hK,hc0⟩:=Kd.C_get h z139 i h0 h1
 have hc:∀ j u,c[j]? = some u→w.cell? (ad.add (i.toNat * 5+j))=some u:=hc0
 obtain⟨A0,c0,A3,c3,A4,c4,rfl,l0,g0,l3,g3,l4,g4⟩:=k139_open hK
 exact⟨ad,A0,c0,A3,c3,A4,c4,e,hc 0 _ rfl,by rw[← add_field _ _ 1 (by omega)];exact hc 1 _ rfl,by rw[← add_field _ _ 2 (by omega)];exact hc 2 _ rfl,by rw[← add_field _ _ 3 (by omega)];exact hc 3 _ rfl,by rw[← add_field _ _ 4 (by omega)];exact hc 4 _ rfl,l0,g0,l3,g3,l4,g4⟩
structure S170 where
 f0:Int
 f1:Int
 f2:Int
def z170:S170:=⟨(0:Int),(0:Int),(0:Int)⟩
def k170:Kd S170:=Kd.iso (Kd.pair (Kd.int .i64) (Kd.pair (Kd.int .i64) (Kd.int .i64))) (fun x:S170=>(x.f0,x.f1,x.f2))
theorem k170_open {w:World} {x:S170} {cs:List Value} (h:k170.K w x cs):cs=[.int .i64 x.f0,.int .i64 x.f1,.int .i64 x.f2]:=by
 obtain⟨_,_,rfl,rfl,⟨_,_,rfl,rfl,rfl⟩⟩:=h
 exact rfl
theorem k170_openM {w:World} {base:Nat} {ok:Nat→Prop} {x:S170} {cs:List Value} (h:k170.M w base ok x cs):cs=[.int .i64 x.f0,.int .i64 x.f1,.int .i64 x.f2]:=by
 obtain⟨_,_,rfl,rfl,⟨_,_,rfl,rfl,rfl⟩⟩:=h
 exact rfl
theorem k170_mkM (w:World) (base:Nat) (ok:Nat→Prop) (x:S170)  : k170.M w base ok x [.int .i64 x.f0,.int .i64 x.f1,.int .i64 x.f2]:=⟨[.int .i64 x.f0],[.int .i64 x.f1,.int .i64 x.f2],rfl,rfl,⟨[.int .i64 x.f1],[.int .i64 x.f2],rfl,rfl,rfl⟩⟩
def rd_T170 (xs:List S170) (i:Int):S170:=xs.getD i.toNat z170
theorem at_T170 {w:World} {A:Option Addr} {n:Nat} {xs:List S170} (h:Kd.C k170 w A n xs) (i:Int) (h0:0≤i) (h1:i<n):∃ ad , A=some ad∧w.cell? (ad.add (i.toNat * 3))=some (.int .i64 (rd_T170 xs i).f0)∧w.cell? ⟨(ad.add (i.toNat * 3)).block,(ad.add (i.toNat * 3)).off+1,none⟩=some (.int .i64 (rd_T170 xs i).f1)∧w.cell? ⟨(ad.add (i.toNat * 3)).block,(ad.add (i.toNat * 3)).off+2,none⟩=some (.int .i64 (rd_T170 xs i).f2):=by
 obtain⟨ad,c,e,_,hK,hc0⟩:=Kd.C_get h z170 i h0 h1
 have hc:∀ j u,c[j]? = some u→w.cell? (ad.add (i.toNat * 3+j))=some u:=hc0
 obtain rfl:=k170_open hK
 exact⟨ad,e,hc 0 _ rfl,by rw[← add_field _ _ 1 (by omega)];exact hc 1 _ rfl,by rw[← add_field _ _ 2 (by omega)];exact hc 2 _ rfl⟩
structure S200 where
 f0:Int
 f1:Int
 f2:Int
def z200:S200:=⟨(0:Int),(0:Int),(0:Int)⟩
def k200:Kd S200:=Kd.iso (Kd.pair (Kd.int .i64) (Kd.pair (Kd.int .i64) (Kd.int .i64))) (fun x:S200=>(x.f0,x.f1,x.f2))
theorem k200_open {w:World} {x:S200} {cs:List Value} (h:k200.K w x cs):cs=[.int .i64 x.f0,.int .i64 x.f1,.int .i64 x.f2]:=by
 obtain⟨_,_,rfl,rfl,⟨_,_,rfl,rfl,rfl⟩⟩:=h
 exact rfl
theorem k200_openM {w:World} {base:Nat} {ok:Nat→Prop} {x:S200} {cs:List Value} (h:k200.M w base ok x cs):cs=[.int .i64 x.f0,.int .i64 x.f1,.int .i64 x.f2]:=by
 obtain⟨_,_,rfl,rfl,⟨_,_,rfl,rfl,rfl⟩⟩:=h
 exact rfl
theorem k200_mkM (w:World) (base:Nat) (ok:Nat→Prop) (x:S200)  : k200.M w base ok x [.int .i64 x.f0,.int .i64 x.f1,.int .i64 x.f2]:=⟨[.int .i64 x.f0],[.int .i64 x.f1,.int .i64 x.f2],rfl,rfl,⟨[.int .i64 x.f1],[.int .i64 x.f2],rfl,rfl,rfl⟩⟩
def rd_T200 (xs:List S200) (i:Int):S200:=xs.getD i.toNat z200
theorem at_T200 {w:World} {A:Option Addr} {n:Nat} {xs:List S200} (h:Kd.C k200 w A n xs) (i:Int) (h0:0≤i) (h1:i<n):∃ ad , A=some ad∧w.cell? (ad.add (i.toNat * 3))=some (.int .i64 (rd_T200 xs i).f0)∧w.cell? ⟨(ad.add (i.toNat * 3)).block,(ad.add (i.toNat * 3)).off+1,none⟩=some (.int .i64 (rd_T200 xs i).f1)∧w.cell? ⟨(ad.add (i.toNat * 3)).block,(ad.add (i.toNat * 3)).off+2,none⟩=some (.int .i64 (rd_T200 xs i).f2):=by
 obtain⟨ad,c,e,_,hK,hc0⟩:=Kd.C_get h z200 i h0 h1
 have hc:∀ j u,c[j]? = some u→w.cell? (ad.add (i.toNat * 3+j))=some u:=hc0
 obtain rfl:=k200_open hK
 exact⟨ad,e,hc 0 _ rfl,by rw[← add_field _ _ 1 (by omega)];exact hc 1 _ rfl,by rw[← add_field _ _ 2 (by omega)];exact hc 2 _ rfl⟩
structure S175 where
 f0:Int
 f1:Int
 f2:(List S200)
 f3:S57
def z175:S175:=⟨(0:Int),(0:Int),([]:List S200),z57⟩
def k175:Kd S175:=Kd.iso (Kd.pair (Kd.int .i64) (Kd.pair (Kd.int .i64) (Kd.pair (Kd.slice 200 k200) k57))) (fun x:S175=>(x.f0,x.f1,x.f2,x.f3))
theorem k175_open {w:World} {x:S175} {cs:List Value} (h:k175.K w x cs):∃ A2 c2 A4 c4,cs=[.int .i64 x.f0,.int .i64 x.f1,.slice A2 x.f2.length c2,.int .i64 x.f3.f0,.slice A4 x.f3.f1.length c4]∧x.f2.length≤c2∧k200.C w A2 x.f2.length x.f2∧x.f3.f1.length≤c4∧(Kd.int .i64).C w A4 x.f3.f1.length x.f3.f1:=by
 obtain⟨_,_,rfl,rfl,⟨_,_,rfl,rfl,⟨_,_,rfl,⟨A2,c2,rfl,l2,g2⟩,s3⟩⟩⟩:=h
 obtain⟨A4,c4,rfl,l4,g4⟩:=k57_open s3
 exact⟨A2,c2,A4,c4,rfl,l2,g2,l4,g4⟩
theorem k175_openM {w:World} {base:Nat} {ok:Nat→Prop} {x:S175} {cs:List Value} (h:k175.M w base ok x cs):∃ v2 v4,cs=[.int .i64 x.f0,.int .i64 x.f1,v2,.int .i64 x.f3.f0,v4]∧k200.R 200 w base ok v2 x.f2∧(Kd.int .i64).R 3 w base ok v4 x.f3.f1:=by
 obtain⟨_,_,rfl,rfl,⟨_,_,rfl,rfl,⟨_,_,rfl,⟨v2,rfl,g2⟩,s3⟩⟩⟩:=h
 obtain⟨v4,rfl,g4⟩:=k57_openM s3
 exact⟨v2,v4,rfl,g2,g4⟩
theorem k175_mkM (w:World) (base:Nat) (ok:Nat→Prop) (x:S175) {v2:Value} (g2:k200.R 200 w base ok v2 x.f2) {v4:Value} (g4:(Kd.int .i64).R 3 w base ok v4 x.f3.f1):k175.M w base ok x [.int .i64 x.f0,.int .i64 x.f1,v2,.int .i64 x.f3.f0,v4]:=⟨[.int .i64 x.f0],[.int .i64 x.f1,v2,.int .i64 x.f3.f0,v4],rfl,rfl,⟨[.int .i64 x.f1],[v2,.int .i64 x.f3.f0,v4],rfl,rfl,⟨[v2],[.int .i64 x.f3.f0,v4],rfl,⟨v2,rfl,g2⟩,(k57_mkM w base ok x.f3 g4)⟩⟩⟩
def rd_T175 (xs:List S175) (i:Int):S175:=xs.getD i.toNat z175
theorem at_T175 {w:World} {A:Option Addr} {n:Nat} {xs:List S175} (h:Kd.C k175 w A n xs) (i:Int) (h0:0≤i) (h1:i<n):∃ ad A2 c2 A4 c4,A=some ad∧w.cell? (ad.add (i.toNat * 5))=some (.int .i64 (rd_T175 xs i).f0)∧w.cell? ⟨(ad.add (i.toNat * 5)).block,(ad.add (i.toNat * 5)).off+1,none⟩=some (.int .i64 (rd_T175 xs i).f1)∧w.cell? ⟨(ad.add (i.toNat * 5)).block,(ad.add (i.toNat * 5)).off+2,none⟩=some (.slice A2 (rd_T175 xs i).f2.length c2)∧w.cell? ⟨(ad.add (i.toNat * 5)).block,(ad.add (i.toNat * 5)).off+3,none⟩=some (.int .i64 (rd_T175 xs i).f3.f0)∧w.cell? ⟨(ad.add (i.toNat * 5)).block,(ad.add (i.toNat * 5)).off+4,none⟩=some (.slice A4 (rd_T175 xs i).f3.f1.length c4)∧(rd_T175 xs i).f2.length≤c2∧k200.C w A2 (rd_T175 xs i).f2.length (rd_T175 xs i).f2∧(rd_T175 xs i).f3.f1.length≤c4∧(Kd.int .i64).C w A4 (rd_T175 xs i).f3.f1.length (rd_T175 xs i).f3.f1:=by
 obtain⟨ad,c,e,_,hK,hc0⟩:=Kd.C_get h z175 i h0 h1
 have hc:∀ j u,c[j]? = some u→w.cell? (ad.add (i.toNat * 5+j))=some u:=hc0
 obtain⟨A2,c2,A4,c4,rfl,l2,g2,l4,g4⟩:=k175_open hK
 exact⟨ad,A2,c2,A4,c4,e,hc 0 _ rfl,by rw[← add_field _ _ 1 (by omega)];exact hc 1 _ rfl,by rw[← add_field _ _ 2 (by omega)];exact hc 2 _ rfl,by rw[← add_field _ _ 3 (by omega)];exact hc 3 _ rfl,by rw[← add_field _ _ 4 (by omega)];exact hc 4 _ rfl,l2,g2,l4,g4⟩
structure S187 where
 f0:Int
 f1:Int
def z187:S187:=⟨(0:Int),(0:Int)⟩
def k187:Kd S187:=Kd.iso (Kd.pair (Kd.int .i64) (Kd.int .i64)) (fun x:S187=>(x.f0,x.f1))
theorem k187_open {w:World} {x:S187} {cs:List Value} (h:k187.K w x cs):cs=[.int .i64 x.f0,.int .i64 x.f1]:=by
 obtain⟨_,_,rfl,rfl,rfl⟩:=h
 exact rfl
theorem k187_openM {w:World} {base:Nat} {ok:Nat→Prop} {x:S187} {cs:List Value} (h:k187.M w base ok x cs):cs=[.int .i64 x.f0,.int .i64 x.f1]:=by
 obtain⟨_,_,rfl,rfl,rfl⟩:=h
 exact rfl
theorem k187_mkM (w:World) (base:Nat) (ok:Nat→Prop) (x:S187)  : k187.M w base ok x [.int .i64 x.f0,.int .i64 x.f1]:=⟨[.int .i64 x.f0],[.int .i64 x.f1],rfl,rfl,rfl⟩
def rd_T187 (xs:List S187) (i:Int):S187:=xs.getD i.toNat z187
theorem at_T187 {w:World} {A:Option Addr} {n:Nat} {xs:List S187} (h:Kd.C k187 w A n xs) (i:Int) (h0:0≤i) (h1:i<n):∃ ad , A=some ad∧w.cell? (ad.add (i.toNat * 2))=some (.int .i64 (rd_T187 xs i).f0)∧w.cell? ⟨(ad.add (i.toNat * 2)).block,(ad.add (i.toNat * 2)).off+1,none⟩=some (.int .i64 (rd_T187 xs i).f1):=by
 obtain⟨ad,c,e,_,hK,hc0⟩:=Kd.C_get h z187 i h0 h1
 have hc:∀ j u,c[j]? = some u→w.cell? (ad.add (i.toNat * 2+j))=some u:=hc0
 obtain rfl:=k187_open hK
 exact⟨ad,e,hc 0 _ rfl,by rw[← add_field _ _ 1 (by omega)];exact hc 1 _ rfl⟩
structure S189 where
 f0:Int
 f1:Int
 f2:Int
 f3:Int
def z189:S189:=⟨(0:Int),(0:Int),(0:Int),(0:Int)⟩
def k189:Kd S189:=Kd.iso (Kd.pair (Kd.int .i64) (Kd.pair (Kd.int .i64) (Kd.pair (Kd.int .i64) (Kd.int .i64)))) (fun x:S189=>(x.f0,x.f1,x.f2,x.f3))
theorem k189_open {w:World} {x:S189} {cs:List Value} (h:k189.K w x cs):cs=[.int .i64 x.f0,.int .i64 x.f1,.int .i64 x.f2,.int .i64 x.f3]:=by
 obtain⟨_,_,rfl,rfl,⟨_,_,rfl,rfl,⟨_,_,rfl,rfl,rfl⟩⟩⟩:=h
 exact rfl
theorem k189_openM {w:World} {base:Nat} {ok:Nat→Prop} {x:S189} {cs:List Value} (h:k189.M w base ok x cs):cs=[.int .i64 x.f0,.int .i64 x.f1,.int .i64 x.f2,.int .i64 x.f3]:=by
 obtain⟨_,_,rfl,rfl,⟨_,_,rfl,rfl,⟨_,_,rfl,rfl,rfl⟩⟩⟩:=h
 exact rfl
theorem k189_mkM (w:World) (base:Nat) (ok:Nat→Prop) (x:S189)  : k189.M w base ok x [.int .i64 x.f0,.int .i64 x.f1,.int .i64 x.f2,.int .i64 x.f3]:=⟨[.int .i64 x.f0],[.int .i64 x.f1,.int .i64 x.f2,.int .i64 x.f3],rfl,rfl,⟨[.int .i64 x.f1],[.int .i64 x.f2,.int .i64 x.f3],rfl,rfl,⟨[.int .i64 x.f2],[.int .i64 x.f3],rfl,rfl,rfl⟩⟩⟩
def rd_T189 (xs:List S189) (i:Int):S189:=xs.getD i.toNat z189
theorem at_T189 {w:World} {A:Option Addr} {n:Nat} {xs:List S189} (h:Kd.C k189 w A n xs) (i:Int) (h0:0≤i) (h1:i<n):∃ ad , A=some ad∧w.cell? (ad.add (i.toNat * 4))=some (.int .i64 (rd_T189 xs i).f0)∧w.cell? ⟨(ad.add (i.toNat * 4)).block,(ad.add (i.toNat * 4)).off+1,none⟩=some (.int .i64 (rd_T189 xs i).f1)∧w.cell? ⟨(ad.add (i.toNat * 4)).block,(ad.add (i.toNat * 4)).off+2,none⟩=some (.int .i64 (rd_T189 xs i).f2)∧w.cell? ⟨(ad.add (i.toNat * 4)).block,(ad.add (i.toNat * 4)).off+3,none⟩=some (.int .i64 (rd_T189 xs i).f3):=by
 obtain⟨ad,c,e,_,hK,hc0⟩:=Kd.C_get h z189 i h0 h1
 have hc:∀ j u,c[j]? = some u→w.cell? (ad.add (i.toNat * 4+j))=some u:=hc0
 obtain rfl:=k189_open hK
 exact⟨ad,e,hc 0 _ rfl,by rw[← add_field _ _ 1 (by omega)];exact hc 1 _ rfl,by rw[← add_field _ _ 2 (by omega)];exact hc 2 _ rfl,by rw[← add_field _ _ 3 (by omega)];exact hc 3 _ rfl⟩
structure S146 where
 f0:(List S56)
 f1:Int
 f2:Bool
 f3:(List S187)
 f4:(List S189)
def z146:S146:=⟨([]:List S56),(0:Int),false,([]:List S187),([]:List S189)⟩
def k146:Kd S146:=Kd.iso (Kd.pair (Kd.slice 56 k56) (Kd.pair (Kd.int .i64) (Kd.pair Kd.bool (Kd.pair (Kd.slice 187 k187) (Kd.slice 189 k189))))) (fun x:S146=>(x.f0,x.f1,x.f2,x.f3,x.f4))
theorem k146_open {w:World} {x:S146} {cs:List Value} (h:k146.K w x cs):∃ A0 c0 A3 c3 A4 c4,cs=[.slice A0 x.f0.length c0,.int .i64 x.f1,.bool x.f2,.slice A3 x.f3.length c3,.slice A4 x.f4.length c4]∧x.f0.length≤c0∧k56.C w A0 x.f0.length x.f0∧x.f3.length≤c3∧k187.C w A3 x.f3.length x.f3∧x.f4.length≤c4∧k189.C w A4 x.f4.length x.f4:=by
 obtain⟨_,_,rfl,⟨A0,c0,rfl,l0,g0⟩,⟨_,_,rfl,rfl,⟨_,_,rfl,rfl,⟨_,_,rfl,⟨A3,c3,rfl,l3,g3⟩,⟨A4,c4,rfl,l4,g4⟩⟩⟩⟩⟩:=h
 exact⟨A0,c0,A3,c3,A4,c4,rfl,l0,g0,l3,g3,l4,g4⟩
theorem k146_openM {w:World} {base:Nat} {ok:Nat→Prop} {x:S146} {cs:List Value} (h:k146.M w base ok x cs):∃ v0 v3 v4,cs=[v0,.int .i64 x.f1,.bool x.f2,v3,v4]∧k56.R 56 w base ok v0 x.f0∧k187.R 187 w base ok v3 x.f3∧k189.R 189 w base ok v4 x.f4:=by
 obtain⟨_,_,rfl,⟨v0,rfl,g0⟩,⟨_,_,rfl,rfl,⟨_,_,rfl,rfl,⟨_,_,rfl,⟨v3,rfl,g3⟩,⟨v4,rfl,g4⟩⟩⟩⟩⟩:=h
 exact⟨v0,v3,v4,rfl,g0,g3,g4⟩
theorem k146_mkM (w:World) (base:Nat) (ok:Nat→Prop) (x:S146) {v0:Value} (g0:k56.R 56 w base ok v0 x.f0) {v3:Value} (g3:k187.R 187 w base ok v3 x.f3) {v4:Value} (g4:k189.R 189 w base ok v4 x.f4):k146.M w base ok x [v0,.int .i64 x.f1,.bool x.f2,v3,v4]:=⟨[v0],[.int .i64 x.f1,.bool x.f2,v3,v4],rfl,⟨v0,rfl,g0⟩,⟨[.int .i64 x.f1],[.bool x.f2,v3,v4],rfl,rfl,⟨[.bool x.f2],[v3,v4],rfl,rfl,⟨[v3],[v4],rfl,⟨v3,rfl,g3⟩,⟨v4,rfl,g4⟩⟩⟩⟩⟩
def rd_T146 (xs:List S146) (i:Int):S146:=xs.getD i.toNat z146
theorem at_T146 {w:World} {A:Option Addr} {n:Nat} {xs:List S146} (h:Kd.C k146 w A n xs) (i:Int) (h0:0≤i) (h1:i<n):∃ ad A0 c0 A3 c3 A4 c4,A=some ad∧w.cell? (ad.add (i.toNat * 5))=some (.slice A0 (rd_T146 xs i).f0.length c0)∧w.cell? ⟨(ad.add (i.toNat * 5)).block,(ad.add (i.toNat * 5)).off+1,none⟩=some (.int .i64 (rd_T146 xs i).f1)∧w.cell? ⟨(ad.add (i.toNat * 5)).block,(ad.add (i.toNat * 5)).off+2,none⟩=some (.bool (rd_T146 xs i).f2)∧w.cell? ⟨(ad.add (i.toNat * 5)).block,(ad.add (i.toNat * 5)).off+3,none⟩=some (.slice A3 (rd_T146 xs i).f3.length c3)∧w.cell? ⟨(ad.add (i.toNat * 5)).block,(ad.add (i.toNat * 5)).off+4,none⟩=some (.slice A4 (rd_T146 xs i).f4.length c4)∧(rd_T146 xs i).f0.length≤c0∧k56.C w A0 (rd_T146 xs i).f0.length (rd_T146 xs i).f0∧(rd_T146 xs i).f3.length≤c3∧k187.C w A3 (rd_T146 xs i).f3.length (rd_T146 xs i).f3∧(rd_T146 xs i).f4.length≤c4∧k189.C w A4 (rd_T146 xs i).f4.length (rd_T146 xs i).f4:=by
 obtain⟨ad,c,e,_,hK,hc0⟩:=Kd.C_get h z146 i h0 h1
 have hc:∀ j u,c[j]? = some u→w.cell? (ad.add (i.toNat * 5+j))=some u:=hc0
 obtain⟨A0,c0,A3,c3,A4,c4,rfl,l0,g0,l3,g3,l4,g4⟩:=k146_open hK
 exact⟨ad,A0,c0,A3,c3,A4,c4,e,hc 0 _ rfl,by rw[← add_field _ _ 1 (by omega)];exact hc 1 _ rfl,by rw[← add_field _ _ 2 (by omega)];exact hc 2 _ rfl,by rw[← add_field _ _ 3 (by omega)];exact hc 3 _ rfl,by rw[← add_field _ _ 4 (by omega)];exact hc 4 _ rfl,l0,g0,l3,g3,l4,g4⟩
structure S75 where
 f0:(List S172)
 f1:(List S165)
def k75:Kd S75:=Kd.iso (Kd.pair (Kd.slice 172 k172) (Kd.slice 165 k165)) (fun x:S75=>(x.f0,x.f1))
theorem k75_open {w:World} {x:S75} {cs:List Value} (h:k75.K w x cs):∃ A0 c0 A1 c1,cs=[.slice A0 x.f0.length c0,.slice A1 x.f1.length c1]∧x.f0.length≤c0∧k172.C w A0 x.f0.length x.f0∧x.f1.length≤c1∧k165.C w A1 x.f1.length x.f1:=by
 obtain⟨_,_,rfl,⟨A0,c0,rfl,l0,g0⟩,⟨A1,c1,rfl,l1,g1⟩⟩:=h
 exact⟨A0,c0,A1,c1,rfl,l0,g0,l1,g1⟩
structure S62 where
 f0:(List Int)
 f1:Int
def k62:Kd S62:=Kd.iso (Kd.pair (Kd.slice 3 (Kd.int .i64)) (Kd.int .i64)) (fun x:S62=>(x.f0,x.f1))
theorem k62_open {w:World} {x:S62} {cs:List Value} (h:k62.K w x cs):∃ A0 c0,cs=[.slice A0 x.f0.length c0,.int .i64 x.f1]∧x.f0.length≤c0∧(Kd.int .i64).C w A0 x.f0.length x.f0:=by
 obtain⟨_,_,rfl,⟨A0,c0,rfl,l0,g0⟩,rfl⟩:=h
 exact⟨A0,c0,rfl,l0,g0⟩
structure S78 where
 f0:S75
 f1:(List S139)
 f2:Int
 f3:(List S53)
 f4:(List Int)
 f5:S62
def k78:Kd S78:=Kd.iso (Kd.pair k75 (Kd.pair (Kd.slice 139 k139) (Kd.pair (Kd.int .i64) (Kd.pair (Kd.slice 53 k53) (Kd.pair (Kd.slice 3 (Kd.int .i64)) k62))))) (fun x:S78=>(x.f0,x.f1,x.f2,x.f3,x.f4,x.f5))
theorem k78_open {w:World} {x:S78} {cs:List Value} (h:k78.K w x cs):∃ A0 c0 A1 c1 A2 c2 A4 c4 A5 c5 A6 c6,cs=[.slice A0 x.f0.f0.length c0,.slice A1 x.f0.f1.length c1,.slice A2 x.f1.length c2,.int .i64 x.f2,.slice A4 x.f3.length c4,.slice A5 x.f4.length c5,.slice A6 x.f5.f0.length c6,.int .i64 x.f5.f1]∧x.f0.f0.length≤c0∧k172.C w A0 x.f0.f0.length x.f0.f0∧x.f0.f1.length≤c1∧k165.C w A1 x.f0.f1.length x.f0.f1∧x.f1.length≤c2∧k139.C w A2 x.f1.length x.f1∧x.f3.length≤c4∧k53.C w A4 x.f3.length x.f3∧x.f4.length≤c5∧(Kd.int .i64).C w A5 x.f4.length x.f4∧x.f5.f0.length≤c6∧(Kd.int .i64).C w A6 x.f5.f0.length x.f5.f0:=by
 obtain⟨_,_,rfl,s0,⟨_,_,rfl,⟨A2,c2,rfl,l2,g2⟩,⟨_,_,rfl,rfl,⟨_,_,rfl,⟨A4,c4,rfl,l4,g4⟩,⟨_,_,rfl,⟨A5,c5,rfl,l5,g5⟩,s6⟩⟩⟩⟩⟩:=h
 obtain⟨A0,c0,A1,c1,rfl,l0,g0,l1,g1⟩:=k75_open s0
 obtain⟨A6,c6,rfl,l6,g6⟩:=k62_open s6
 exact⟨A0,c0,A1,c1,A2,c2,A4,c4,A5,c5,A6,c6,rfl,l0,g0,l1,g1,l2,g2,l4,g4,l5,g5,l6,g6⟩
end Go.Proofs.Yteamagejhbkhnaa.P
