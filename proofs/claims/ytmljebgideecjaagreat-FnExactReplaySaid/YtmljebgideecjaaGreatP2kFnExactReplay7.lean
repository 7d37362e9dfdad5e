/- A part of the proof of the law FnExactReplay: texts of this seat, merged (words, printed functions of the program, plain lemmas). Conditions: none of its own. -/
import Derived.Test.YtmljebgideecjaaGreatProg
import Derived.Below
import Derived.Deep.Draws
import Derived.Deep.AppendLies
import Derived.Maps.AppendAt
import Derived.OwnWalk
import Derived.Laws.BytesArg
import Derived.Laws.MakeOwn
import Derived.Laws.OwnMore
import Derived.Deep.OwnRows
import Derived.Tactics
import Derived.Lib.ConvBytes
import Derived.Laws.Slices
import Derived.WalkKit
import Derived.KernelRfl
import Derived.RowKit3
import Derived.Deep.LoopGhost
import Derived.Deep.QuietTactic
import Derived.BigQuiet
import Derived.WideLaws
import Derived.Deep.DeepCutAuto
import Derived.Deep.CutBlock
import Derived.Deep.RegionHeld3
import Derived.Laws.Rows
import Derived.Lib.AppendStr
import Derived.ArgAppend
import Derived.Laws.IdiomCopy
import Derived.OrdersHeld
import Derived.Laws.BitsLemmas
import Derived.RowKit
import Derived.Test.YtmljebgideecjaaGreatP2kFnExactReplay6
set_option linter.unusedSimpArgs false
set_option linter.unusedVariables false
set_option maxHeartbeats 8000000
set_option maxRecDepth 100000
namespace Go.Proofs.YtmljebgideecjaaGreat.P2
open Go.RowKit Go.Proofs.YtmljebgideecjaaGreatW.PrintWords Go.Proofs.YtmljebgideecjaaGreatW.PrintLast Go.Proofs.YtmljebgideecjaaGreatW.PrintMore
attribute [local go_sem] max2_int min2_int max_two min_two max_three min_three max_four min_four   -- for this text's walks alone
def errW:Option Int→Value
 | none => .nilIface
 | some c => .iface 0 (.int .i64 c)
theorem errW_none:errW none = .nilIface:=rfl
theorem errW_some (c:Int):errW (some c) = .iface 0 (.int .i64 c):=rfl
theorem info3:(Tryz.prog.info? 3).map (fun i=>(i.zero,i.size,i.bytes))=some (some (.int .i64 0),1,8):=by kernel_rfl
theorem info69:(Tryz.prog.info? 69).map (fun i=>(i.zero,i.size,i.bytes))=some (some (.agg #[(.int .i64 0),(.int .i64 0),(.int .i64 0)]),3,24):=by kernel_rfl
theorem info73:(Tryz.prog.info? 73).map (fun i=>(i.zero,i.size,i.bytes))=some (some (.agg #[(.int .i64 0),(.int .i64 0),(.int .i64 0),(.int .i64 0),(.int .i64 0),(.int .i64 0),(.int .i64 0),(.int .i64 0),(.slice none 0 0)]),9,88):=by kernel_rfl
theorem info97:(Tryz.prog.info? 97).map (fun i=>(i.zero,i.size,i.bytes))=some (some (.agg #[(.slice none 0 0),(.int .i64 0),(.bool false),(.slice none 0 0),(.slice none 0 0)]),5,88):=by kernel_rfl
theorem info140:(Tryz.prog.info? 140).map (fun i=>(i.zero,i.size,i.bytes))=some (some (.agg #[(.int .i64 0),(.int .i64 0),(.int .i64 0)]),3,24):=by kernel_rfl
theorem info162:(Tryz.prog.info? 162).map (fun i=>(i.zero,i.size,i.bytes))=some (some (.agg #[(.int .i64 0),(.int .i64 0),(.slice none 0 0),(.int .i64 0),(.slice none 0 0)]),5,72):=by kernel_rfl
theorem info165:(Tryz.prog.info? 165).map (fun i=>(i.zero,i.size,i.bytes))=some (some (.agg #[(.int .i64 0),(.int .i64 0),(.int .i64 0)]),3,24):=by kernel_rfl
theorem info172:(Tryz.prog.info? 172).map (fun i=>(i.zero,i.size,i.bytes))=some (some (.agg #[(.int .i64 0),(.int .i64 0)]),2,16):=by kernel_rfl
theorem info174:(Tryz.prog.info? 174).map (fun i=>(i.zero,i.size,i.bytes))=some (some (.agg #[(.int .i64 0),(.int .i64 0),(.int .i64 0),(.int .i64 0)]),4,32):=by kernel_rfl
structure S176 where
 f0:Int
 f1:Int
 f2:Int
def z176:S176:=⟨(0:Int),(0:Int),(0:Int)⟩
def k176:Kd S176:=Kd.iso (Kd.pair (Kd.int .i64) (Kd.pair (Kd.int .i64) (Kd.int .i64))) (fun x:S176=>(x.f0,x.f1,x.f2))
theorem k176_open {w:World} {x:S176} {cs:List Value} (h:k176.K w x cs):cs=[.int .i64 x.f0,.int .i64 x.f1,.int .i64 x.f2]:=by
 obtain⟨_,_,rfl,rfl,⟨_,_,rfl,rfl,rfl⟩⟩:=h
 exact rfl
def rd_T176 (xs:List S176) (i:Int):S176:=xs.getD i.toNat z176
theorem at_T176 {w:World} {A:Option Addr} {n:Nat} {xs:List S176} (h:Kd.C k176 w A n xs) (i:Int) (h0:0≤i) (h1:i<n):∃ ad , A=some ad∧w.cell? (ad.add (i.toNat * 3))=some (.int .i64 (rd_T176 xs i).f0)∧w.cell? ⟨(ad.add (i.toNat * 3)).block,(ad.add (i.toNat * 3)).off+1,none⟩=some (.int .i64 (rd_T176 xs i).f1)∧w.cell? ⟨(ad.add (i.toNat * 3)).block,(ad.add (i.toNat * 3)).off+2,none⟩=some (.int .i64 (rd_T176 xs i).f2):=by
 obtain⟨ad,c,e,_,hK,hc0⟩:=Kd.C_get h z176 i h0 h1
 have hc:∀ j u,c[j]? = some u→w.cell? (ad.add (i.toNat * 3+j))=some u:=hc0
 obtain rfl:=k176_open hK
 exact⟨ad,e,hc 0 _ rfl,by rw[← add_field _ _ 1 (by omega)];exact hc 1 _ rfl,by rw[← add_field _ _ 2 (by omega)];exact hc 2 _ rfl⟩
structure S224 where
 f0:Int
 f1:Int
 f2:Int
def z224:S224:=⟨(0:Int),(0:Int),(0:Int)⟩
def k224:Kd S224:=Kd.iso (Kd.pair (Kd.int .i64) (Kd.pair (Kd.int .i64) (Kd.int .i64))) (fun x:S224=>(x.f0,x.f1,x.f2))
theorem k224_open {w:World} {x:S224} {cs:List Value} (h:k224.K w x cs):cs=[.int .i64 x.f0,.int .i64 x.f1,.int .i64 x.f2]:=by
 obtain⟨_,_,rfl,rfl,⟨_,_,rfl,rfl,rfl⟩⟩:=h
 exact rfl
def rd_T224 (xs:List S224) (i:Int):S224:=xs.getD i.toNat z224
theorem at_T224 {w:World} {A:Option Addr} {n:Nat} {xs:List S224} (h:Kd.C k224 w A n xs) (i:Int) (h0:0≤i) (h1:i<n):∃ ad , A=some ad∧w.cell? (ad.add (i.toNat * 3))=some (.int .i64 (rd_T224 xs i).f0)∧w.cell? ⟨(ad.add (i.toNat * 3)).block,(ad.add (i.toNat * 3)).off+1,none⟩=some (.int .i64 (rd_T224 xs i).f1)∧w.cell? ⟨(ad.add (i.toNat * 3)).block,(ad.add (i.toNat * 3)).off+2,none⟩=some (.int .i64 (rd_T224 xs i).f2):=by
 obtain⟨ad,c,e,_,hK,hc0⟩:=Kd.C_get h z224 i h0 h1
 have hc:∀ j u,c[j]? = some u→w.cell? (ad.add (i.toNat * 3+j))=some u:=hc0
 obtain rfl:=k224_open hK
 exact⟨ad,e,hc 0 _ rfl,by rw[← add_field _ _ 1 (by omega)];exact hc 1 _ rfl,by rw[← add_field _ _ 2 (by omega)];exact hc 2 _ rfl⟩
structure S117 where
 f0:Int
 f1:(List Int)
def z117:S117:=⟨(0:Int),([]:List Int)⟩
def k117:Kd S117:=Kd.iso (Kd.pair (Kd.int .i64) (Kd.slice 3 (Kd.int .i64))) (fun x:S117=>(x.f0,x.f1))
theorem k117_open {w:World} {x:S117} {cs:List Value} (h:k117.K w x cs):∃ A1 c1,cs=[.int .i64 x.f0,.slice A1 x.f1.length c1]∧x.f1.length≤c1∧(Kd.int .i64).C w A1 x.f1.length x.f1:=by
 obtain⟨_,_,rfl,rfl,⟨A1,c1,rfl,l1,g1⟩⟩:=h
 exact⟨A1,c1,rfl,l1,g1⟩
structure S155 where
 f0:Int
 f1:Int
 f2:(List S224)
 f3:S117
def z155:S155:=⟨(0:Int),(0:Int),([]:List S224),z117⟩
def k155:Kd S155:=Kd.iso (Kd.pair (Kd.int .i64) (Kd.pair (Kd.int .i64) (Kd.pair (Kd.slice 224 k224) k117))) (fun x:S155=>(x.f0,x.f1,x.f2,x.f3))
theorem k155_open {w:World} {x:S155} {cs:List Value} (h:k155.K w x cs):∃ A2 c2 A4 c4,cs=[.int .i64 x.f0,.int .i64 x.f1,.slice A2 x.f2.length c2,.int .i64 x.f3.f0,.slice A4 x.f3.f1.length c4]∧x.f2.length≤c2∧k224.C w A2 x.f2.length x.f2∧x.f3.f1.length≤c4∧(Kd.int .i64).C w A4 x.f3.f1.length x.f3.f1:=by
 obtain⟨_,_,rfl,rfl,⟨_,_,rfl,rfl,⟨_,_,rfl,⟨A2,c2,rfl,l2,g2⟩,s3⟩⟩⟩:=h
 obtain⟨A4,c4,rfl,l4,g4⟩:=k117_open s3
 exact⟨A2,c2,A4,c4,rfl,l2,g2,l4,g4⟩
def rd_T155 (xs:List S155) (i:Int):S155:=xs.getD i.toNat z155
theorem at_T155 {w:World} {A:Option Addr} {n:Nat} {xs:List S155} (h:Kd.C k155 w A n xs) (i:Int) (h0:0≤i) (h1:i<n):∃ ad A2 c2 A4 c4,A=some ad∧w.cell? (ad.add (i.toNat * 5))=some (.int .i64 (rd_T155 xs i).f0)∧w.cell? ⟨(ad.add (i.toNat * 5)).block,(ad.add (i.toNat * 5)).off+1,none⟩=some (.int .i64 (rd_T155 xs i).f1)∧w.cell? ⟨(ad.add (i.toNat * 5)).block,(ad.add (i.toNat * 5)).off+2,none⟩=some (.slice A2 (rd_T155 xs i).f2.length c2)∧w.cell? ⟨(ad.add (i.toNat * 5)).block,(ad.add (i.toNat * 5)).off+3,none⟩=some (.int .i64 (rd_T155 xs i).f3.f0)∧w.cell? ⟨(ad.add (i.toNat * 5)).block,(ad.add (i.toNat * 5)).off+4,none⟩=some (.slice A4 (rd_T155 xs i).f3.f1.length c4)∧(rd_T155 xs i).f2.length≤c2∧k224.C w A2 (rd_T155 xs i).f2.length (rd_T155 xs i).f2∧(rd_T155 xs i).f3.f1.length≤c4∧(Kd.int .i64).C w A4 (rd_T155 xs i).f3.f1.length (rd_T155 xs i).f3.f1:=by
 obtain⟨ad,c,e,_,hK,hc0⟩:=Kd.C_get h z155 i h0 h1
 have hc:∀ j u,c[j]? = some u→w.cell? (ad.add (i.toNat * 5+j))=some u:=hc0
 obtain⟨A2,c2,A4,c4,rfl,l2,g2,l4,g4⟩:=k155_open hK
 exact⟨ad,A2,c2,A4,c4,e,hc 0 _ rfl,by rw[← add_field _ _ 1 (by omega)];exact hc 1 _ rfl,by rw[← add_field _ _ 2 (by omega)];exact hc 2 _ rfl,by rw[← add_field _ _ 3 (by omega)];exact hc 3 _ rfl,by rw[← add_field _ _ 4 (by omega)];exact hc 4 _ rfl,l2,g2,l4,g4⟩
structure S116 where
 f0:Int
 f1:Int
 f2:Int
def z116:S116:=⟨(0:Int),(0:Int),(0:Int)⟩
def k116:Kd S116:=Kd.iso (Kd.pair (Kd.int .i64) (Kd.pair (Kd.int .i64) (Kd.int .i64))) (fun x:S116=>(x.f0,x.f1,x.f2))
theorem k116_open {w:World} {x:S116} {cs:List Value} (h:k116.K w x cs):cs=[.int .i64 x.f0,.int .i64 x.f1,.int .i64 x.f2]:=by
 obtain⟨_,_,rfl,rfl,⟨_,_,rfl,rfl,rfl⟩⟩:=h
 exact rfl
def rd_T116 (xs:List S116) (i:Int):S116:=xs.getD i.toNat z116
theorem at_T116 {w:World} {A:Option Addr} {n:Nat} {xs:List S116} (h:Kd.C k116 w A n xs) (i:Int) (h0:0≤i) (h1:i<n):∃ ad , A=some ad∧w.cell? (ad.add (i.toNat * 3))=some (.int .i64 (rd_T116 xs i).f0)∧w.cell? ⟨(ad.add (i.toNat * 3)).block,(ad.add (i.toNat * 3)).off+1,none⟩=some (.int .i64 (rd_T116 xs i).f1)∧w.cell? ⟨(ad.add (i.toNat * 3)).block,(ad.add (i.toNat * 3)).off+2,none⟩=some (.int .i64 (rd_T116 xs i).f2):=by
 obtain⟨ad,c,e,_,hK,hc0⟩:=Kd.C_get h z116 i h0 h1
 have hc:∀ j u,c[j]? = some u→w.cell? (ad.add (i.toNat * 3+j))=some u:=hc0
 obtain rfl:=k116_open hK
 exact⟨ad,e,hc 0 _ rfl,by rw[← add_field _ _ 1 (by omega)];exact hc 1 _ rfl,by rw[← add_field _ _ 2 (by omega)];exact hc 2 _ rfl⟩
structure S204 where
 f0:Int
 f1:Int
def z204:S204:=⟨(0:Int),(0:Int)⟩
def k204:Kd S204:=Kd.iso (Kd.pair (Kd.int .i64) (Kd.int .i64)) (fun x:S204=>(x.f0,x.f1))
theorem k204_open {w:World} {x:S204} {cs:List Value} (h:k204.K w x cs):cs=[.int .i64 x.f0,.int .i64 x.f1]:=by
 obtain⟨_,_,rfl,rfl,rfl⟩:=h
 exact rfl
def rd_T204 (xs:List S204) (i:Int):S204:=xs.getD i.toNat z204
theorem at_T204 {w:World} {A:Option Addr} {n:Nat} {xs:List S204} (h:Kd.C k204 w A n xs) (i:Int) (h0:0≤i) (h1:i<n):∃ ad , A=some ad∧w.cell? (ad.add (i.toNat * 2))=some (.int .i64 (rd_T204 xs i).f0)∧w.cell? ⟨(ad.add (i.toNat * 2)).block,(ad.add (i.toNat * 2)).off+1,none⟩=some (.int .i64 (rd_T204 xs i).f1):=by
 obtain⟨ad,c,e,_,hK,hc0⟩:=Kd.C_get h z204 i h0 h1
 have hc:∀ j u,c[j]? = some u→w.cell? (ad.add (i.toNat * 2+j))=some u:=hc0
 obtain rfl:=k204_open hK
 exact⟨ad,e,hc 0 _ rfl,by rw[← add_field _ _ 1 (by omega)];exact hc 1 _ rfl⟩
structure S206 where
 f0:Int
 f1:Int
 f2:Int
 f3:Int
def z206:S206:=⟨(0:Int),(0:Int),(0:Int),(0:Int)⟩
def k206:Kd S206:=Kd.iso (Kd.pair (Kd.int .i64) (Kd.pair (Kd.int .i64) (Kd.pair (Kd.int .i64) (Kd.int .i64)))) (fun x:S206=>(x.f0,x.f1,x.f2,x.f3))
theorem k206_open {w:World} {x:S206} {cs:List Value} (h:k206.K w x cs):cs=[.int .i64 x.f0,.int .i64 x.f1,.int .i64 x.f2,.int .i64 x.f3]:=by
 obtain⟨_,_,rfl,rfl,⟨_,_,rfl,rfl,⟨_,_,rfl,rfl,rfl⟩⟩⟩:=h
 exact rfl
def rd_T206 (xs:List S206) (i:Int):S206:=xs.getD i.toNat z206
theorem at_T206 {w:World} {A:Option Addr} {n:Nat} {xs:List S206} (h:Kd.C k206 w A n xs) (i:Int) (h0:0≤i) (h1:i<n):∃ ad , A=some ad∧w.cell? (ad.add (i.toNat * 4))=some (.int .i64 (rd_T206 xs i).f0)∧w.cell? ⟨(ad.add (i.toNat * 4)).block,(ad.add (i.toNat * 4)).off+1,none⟩=some (.int .i64 (rd_T206 xs i).f1)∧w.cell? ⟨(ad.add (i.toNat * 4)).block,(ad.add (i.toNat * 4)).off+2,none⟩=some (.int .i64 (rd_T206 xs i).f2)∧w.cell? ⟨(ad.add (i.toNat * 4)).block,(ad.add (i.toNat * 4)).off+3,none⟩=some (.int .i64 (rd_T206 xs i).f3):=by
 obtain⟨ad,c,e,_,hK,hc0⟩:=Kd.C_get h z206 i h0 h1
 have hc:∀ j u,c[j]? = some u→w.cell? (ad.add (i.toNat * 4+j))=some u:=hc0
 obtain rfl:=k206_open hK
 exact⟨ad,e,hc 0 _ rfl,by rw[← add_field _ _ 1 (by omega)];exact hc 1 _ rfl,by rw[← add_field _ _ 2 (by omega)];exact hc 2 _ rfl,by rw[← add_field _ _ 3 (by omega)];exact hc 3 _ rfl⟩
structure S114 where
 f0:(List S116)
 f1:Int
 f2:Bool
 f3:(List S204)
 f4:(List S206)
def z114:S114:=⟨([]:List S116),(0:Int),false,([]:List S204),([]:List S206)⟩
def k114:Kd S114:=Kd.iso (Kd.pair (Kd.slice 116 k116) (Kd.pair (Kd.int .i64) (Kd.pair Kd.bool (Kd.pair (Kd.slice 204 k204) (Kd.slice 206 k206))))) (fun x:S114=>(x.f0,x.f1,x.f2,x.f3,x.f4))
theorem k114_open {w:World} {x:S114} {cs:List Value} (h:k114.K w x cs):∃ A0 c0 A3 c3 A4 c4,cs=[.slice A0 x.f0.length c0,.int .i64 x.f1,.bool x.f2,.slice A3 x.f3.length c3,.slice A4 x.f4.length c4]∧x.f0.length≤c0∧k116.C w A0 x.f0.length x.f0∧x.f3.length≤c3∧k204.C w A3 x.f3.length x.f3∧x.f4.length≤c4∧k206.C w A4 x.f4.length x.f4:=by
 obtain⟨_,_,rfl,⟨A0,c0,rfl,l0,g0⟩,⟨_,_,rfl,rfl,⟨_,_,rfl,rfl,⟨_,_,rfl,⟨A3,c3,rfl,l3,g3⟩,⟨A4,c4,rfl,l4,g4⟩⟩⟩⟩⟩:=h
 exact⟨A0,c0,A3,c3,A4,c4,rfl,l0,g0,l3,g3,l4,g4⟩
def rd_T114 (xs:List S114) (i:Int):S114:=xs.getD i.toNat z114
theorem at_T114 {w:World} {A:Option Addr} {n:Nat} {xs:List S114} (h:Kd.C k114 w A n xs) (i:Int) (h0:0≤i) (h1:i<n):∃ ad A0 c0 A3 c3 A4 c4,A=some ad∧w.cell? (ad.add (i.toNat * 5))=some (.slice A0 (rd_T114 xs i).f0.length c0)∧w.cell? ⟨(ad.add (i.toNat * 5)).block,(ad.add (i.toNat * 5)).off+1,none⟩=some (.int .i64 (rd_T114 xs i).f1)∧w.cell? ⟨(ad.add (i.toNat * 5)).block,(ad.add (i.toNat * 5)).off+2,none⟩=some (.bool (rd_T114 xs i).f2)∧w.cell? ⟨(ad.add (i.toNat * 5)).block,(ad.add (i.toNat * 5)).off+3,none⟩=some (.slice A3 (rd_T114 xs i).f3.length c3)∧w.cell? ⟨(ad.add (i.toNat * 5)).block,(ad.add (i.toNat * 5)).off+4,none⟩=some (.slice A4 (rd_T114 xs i).f4.length c4)∧(rd_T114 xs i).f0.length≤c0∧k116.C w A0 (rd_T114 xs i).f0.length (rd_T114 xs i).f0∧(rd_T114 xs i).f3.length≤c3∧k204.C w A3 (rd_T114 xs i).f3.length (rd_T114 xs i).f3∧(rd_T114 xs i).f4.length≤c4∧k206.C w A4 (rd_T114 xs i).f4.length (rd_T114 xs i).f4:=by
 obtain⟨ad,c,e,_,hK,hc0⟩:=Kd.C_get h z114 i h0 h1
 have hc:∀ j u,c[j]? = some u→w.cell? (ad.add (i.toNat * 5+j))=some u:=hc0
 obtain⟨A0,c0,A3,c3,A4,c4,rfl,l0,g0,l3,g3,l4,g4⟩:=k114_open hK
 exact⟨ad,A0,c0,A3,c3,A4,c4,e,hc 0 _ rfl,by rw[← add_field _ _ 1 (by omega)];exact hc 1 _ rfl,by rw[← add_field _ _ 2 (by omega)];exact hc 2 _ rfl,by rw[← add_field _ _ 3 (by omega)];exact hc 3 _ rfl,by rw[← add_field _ _ 4 (by omega)];exact hc 4 _ rfl,l0,g0,l3,g3,l4,g4⟩
structure S119 where
 f0:Int
 f1:S116
 f2:Int
 f3:Int
 f4:Int
 f5:S117
def z119:S119:=⟨(0:Int),z116,(0:Int),(0:Int),(0:Int),z117⟩
def k119:Kd S119:=Kd.iso (Kd.pair (Kd.int .i64) (Kd.pair k116 (Kd.pair (Kd.int .i64) (Kd.pair (Kd.int .i64) (Kd.pair (Kd.int .i64) k117))))) (fun x:S119=>(x.f0,x.f1,x.f2,x.f3,x.f4,x.f5))
theorem k119_open {w:World} {x:S119} {cs:List Value} (h:k119.K w x cs):∃ A8 c8,cs=[.int .i64 x.f0,.int .i64 x.f1.f0,.int .i64 x.f1.f1,.int .i64 x.f1.f2,.int .i64 x.f2,.int .i64 x.f3,.int .i64 x.f4,.int .i64 x.f5.f0,.slice A8 x.f5.f1.length c8]∧x.f5.f1.length≤c8∧(Kd.int .i64).C w A8 x.f5.f1.length x.f5.f1:=by
 obtain⟨_,_,rfl,rfl,⟨_,_,rfl,s1,⟨_,_,rfl,rfl,⟨_,_,rfl,rfl,⟨_,_,rfl,rfl,s7⟩⟩⟩⟩⟩:=h
 obtain rfl:=k116_open s1
 obtain⟨A8,c8,rfl,l8,g8⟩:=k117_open s7
 exact⟨A8,c8,rfl,l8,g8⟩
def rd_T119 (xs:List S119) (i:Int):S119:=xs.getD i.toNat z119
theorem at_T119 {w:World} {A:Option Addr} {n:Nat} {xs:List S119} (h:Kd.C k119 w A n xs) (i:Int) (h0:0≤i) (h1:i<n):∃ ad A8 c8,A=some ad∧w.cell? (ad.add (i.toNat * 9))=some (.int .i64 (rd_T119 xs i).f0)∧w.cell? ⟨(ad.add (i.toNat * 9)).block,(ad.add (i.toNat * 9)).off+1,none⟩=some (.int .i64 (rd_T119 xs i).f1.f0)∧w.cell? ⟨(ad.add (i.toNat * 9)).block,(ad.add (i.toNat * 9)).off+2,none⟩=some (.int .i64 (rd_T119 xs i).f1.f1)∧w.cell? ⟨(ad.add (i.toNat * 9)).block,(ad.add (i.toNat * 9)).off+3,none⟩=some (.int .i64 (rd_T119 xs i).f1.f2)∧w.cell? ⟨(ad.add (i.toNat * 9)).block,(ad.add (i.toNat * 9)).off+4,none⟩=some (.int .i64 (rd_T119 xs i).f2)∧w.cell? ⟨(ad.add (i.toNat * 9)).block,(ad.add (i.toNat * 9)).off+5,none⟩=some (.int .i64 (rd_T119 xs i).f3)∧w.cell? ⟨(ad.add (i.toNat * 9)).block,(ad.add (i.toNat * 9)).off+6,none⟩=some (.int .i64 (rd_T119 xs i).f4)∧w.cell? ⟨(ad.add (i.toNat * 9)).block,(ad.add (i.toNat * 9)).off+7,none⟩=some (.int .i64 (rd_T119 xs i).f5.f0)∧w.cell? ⟨(ad.add (i.toNat * 9)).block,(ad.add (i.toNat * 9)).off+8,none⟩=some (.slice A8 (rd_T119 xs i).f5.f1.length c8)∧(rd_T119 xs i).f5.f1.length≤c8∧(Kd.int .i64).C w A8 (rd_T119 xs i).f5.f1.length (rd_T119 xs i).f5.f1:=by
 obtain⟨ad,c,e,_,hK,hc0⟩:=Kd.C_get h z119 i h0 h1
 have hc:∀ j u,c[j]? = some u→w.cell? (ad.add (i.toNat * 9+j))=some u:=hc0
 obtain⟨A8,c8,rfl,l8,g8⟩:=k119_open hK
 exact⟨ad,A8,c8,e,hc 0 _ rfl,by rw[← add_field _ _ 1 (by omega)];exact hc 1 _ rfl,by rw[← add_field _ _ 2 (by omega)];exact hc 2 _ rfl,by rw[← add_field _ _ 3 (by omega)];exact hc 3 _ rfl,by rw[← add_field _ _ 4 (by omega)];exact hc 4 _ rfl,by rw[← add_field _ _ 5 (by omega)];exact hc 5 _ rfl,by rw[← add_field _ _ 6 (by omega)];exact hc 6 _ rfl,by rw[← add_field _ _ 7 (by omega)];exact hc 7 _ rfl,by rw[← add_field _ _ 8 (by omega)];exact hc 8 _ rfl,l8,g8⟩
structure S165 where
 f0:Int
 f1:Int
 f2:Int
def z165:S165:=⟨(0:Int),(0:Int),(0:Int)⟩
def k165:Kd S165:=Kd.iso (Kd.pair (Kd.int .i64) (Kd.pair (Kd.int .i64) (Kd.int .i64))) (fun x:S165=>(x.f0,x.f1,x.f2))
theorem k165_open {w:World} {x:S165} {cs:List Value} (h:k165.K w x cs):cs=[.int .i64 x.f0,.int .i64 x.f1,.int .i64 x.f2]:=by
 obtain⟨_,_,rfl,rfl,⟨_,_,rfl,rfl,rfl⟩⟩:=h
 exact rfl
theorem k165_openM {w:World} {base:Nat} {ok:Nat→Prop} {x:S165} {cs:List Value} (h:k165.M w base ok x cs):cs=[.int .i64 x.f0,.int .i64 x.f1,.int .i64 x.f2]:=by
 obtain⟨_,_,rfl,rfl,⟨_,_,rfl,rfl,rfl⟩⟩:=h
 exact rfl
theorem k165_mkM (w:World) (base:Nat) (ok:Nat→Prop) (x:S165)  : k165.M w base ok x [.int .i64 x.f0,.int .i64 x.f1,.int .i64 x.f2]:=⟨[.int .i64 x.f0],[.int .i64 x.f1,.int .i64 x.f2],rfl,rfl,⟨[.int .i64 x.f1],[.int .i64 x.f2],rfl,rfl,rfl⟩⟩
def rd_T165 (xs:List S165) (i:Int):S165:=xs.getD i.toNat z165
theorem at_T165 {w:World} {A:Option Addr} {n:Nat} {xs:List S165} (h:Kd.C k165 w A n xs) (i:Int) (h0:0≤i) (h1:i<n):∃ ad , A=some ad∧w.cell? (ad.add (i.toNat * 3))=some (.int .i64 (rd_T165 xs i).f0)∧w.cell? ⟨(ad.add (i.toNat * 3)).block,(ad.add (i.toNat * 3)).off+1,none⟩=some (.int .i64 (rd_T165 xs i).f1)∧w.cell? ⟨(ad.add (i.toNat * 3)).block,(ad.add (i.toNat * 3)).off+2,none⟩=some (.int .i64 (rd_T165 xs i).f2):=by
 obtain⟨ad,c,e,_,hK,hc0⟩:=Kd.C_get h z165 i h0 h1
 have hc:∀ j u,c[j]? = some u→w.cell? (ad.add (i.toNat * 3+j))=some u:=hc0
 obtain rfl:=k165_open hK
 exact⟨ad,e,hc 0 _ rfl,by rw[← add_field _ _ 1 (by omega)];exact hc 1 _ rfl,by rw[← add_field _ _ 2 (by omega)];exact hc 2 _ rfl⟩
structure S71 where
 f0:Int
 f1:(List Int)
def z71:S71:=⟨(0:Int),([]:List Int)⟩
def k71:Kd S71:=Kd.iso (Kd.pair (Kd.int .i64) (Kd.slice 3 (Kd.int .i64))) (fun x:S71=>(x.f0,x.f1))
theorem k71_open {w:World} {x:S71} {cs:List Value} (h:k71.K w x cs):∃ A1 c1,cs=[.int .i64 x.f0,.slice A1 x.f1.length c1]∧x.f1.length≤c1∧(Kd.int .i64).C w A1 x.f1.length x.f1:=by
 obtain⟨_,_,rfl,rfl,⟨A1,c1,rfl,l1,g1⟩⟩:=h
 exact⟨A1,c1,rfl,l1,g1⟩
theorem k71_openM {w:World} {base:Nat} {ok:Nat→Prop} {x:S71} {cs:List Value} (h:k71.M w base ok x cs):∃ v1,cs=[.int .i64 x.f0,v1]∧(Kd.int .i64).R 3 w base ok v1 x.f1:=by
 obtain⟨_,_,rfl,rfl,⟨v1,rfl,g1⟩⟩:=h
 exact⟨v1,rfl,g1⟩
theorem k71_mkM (w:World) (base:Nat) (ok:Nat→Prop) (x:S71) {v1:Value} (g1:(Kd.int .i64).R 3 w base ok v1 x.f1):k71.M w base ok x [.int .i64 x.f0,v1]:=⟨[.int .i64 x.f0],[v1],rfl,rfl,⟨v1,rfl,g1⟩⟩
structure S162 where
 f0:Int
 f1:Int
 f2:(List S165)
 f3:S71
def z162:S162:=⟨(0:Int),(0:Int),([]:List S165),z71⟩
def k162:Kd S162:=Kd.iso (Kd.pair (Kd.int .i64) (Kd.pair (Kd.int .i64) (Kd.pair (Kd.slice 165 k165) k71))) (fun x:S162=>(x.f0,x.f1,x.f2,x.f3))
theorem k162_open {w:World} {x:S162} {cs:List Value} (h:k162.K w x cs):∃ A2 c2 A4 c4,cs=[.int .i64 x.f0,.int .i64 x.f1,.slice A2 x.f2.length c2,.int .i64 x.f3.f0,.slice A4 x.f3.f1.length c4]∧x.f2.length≤c2∧k165.C w A2 x.f2.length x.f2∧x.f3.f1.length≤c4∧(Kd.int .i64).C w A4 x.f3.f1.length x.f3.f1:=by
 obtain⟨_,_,rfl,rfl,⟨_,_,rfl,rfl,⟨_,_,rfl,⟨A2,c2,rfl,l2,g2⟩,s3⟩⟩⟩:=h
 obtain⟨A4,c4,rfl,l4,g4⟩:=k71_open s3
 exact⟨A2,c2,A4,c4,rfl,l2,g2,l4,g4⟩
theorem k162_openM {w:World} {base:Nat} {ok:Nat→Prop} {x:S162} {cs:List Value} (h:k162.M w base ok x cs):∃ v2 v4,cs=[.int .i64 x.f0,.int .i64 x.f1,v2,.int .i64 x.f3.f0,v4]∧k165.R 165 w base ok v2 x.f2∧(Kd.int .i64).R 3 w base ok v4 x.f3.f1:=by
 obtain⟨_,_,rfl,rfl,⟨_,_,rfl,rfl,⟨_,_,rfl,⟨v2,rfl,g2⟩,s3⟩⟩⟩:=h
 obtain⟨v4,rfl,g4⟩:=k71_openM s3
 exact⟨v2,v4,rfl,g2,g4⟩
theorem k162_mkM (w:World) (base:Nat) (ok:Nat→Prop) (x:S162) {v2:Value} (g2:k165.R 165 w base ok v2 x.f2) {v4:Value} (g4:(Kd.int .i64).R 3 w base ok v4 x.f3.f1):k162.M w base ok x [.int .i64 x.f0,.int .i64 x.f1,v2,.int .i64 x.f3.f0,v4]:=⟨[.int .i64 x.f0],[.int .i64 x.f1,v2,.int .i64 x.f3.f0,v4],rfl,rfl,⟨[.int .i64 x.f1],[v2,.int .i64 x.f3.f0,v4],rfl,rfl,⟨[v2],[.int .i64 x.f3.f0,v4],rfl,⟨v2,rfl,g2⟩,(k71_mkM w base ok x.f3 g4)⟩⟩⟩
def rd_T162 (xs:List S162) (i:Int):S162:=xs.getD i.toNat z162
theorem at_T162 {w:World} {A:Option Addr} {n:Nat} {xs:List S162} (h:Kd.C k162 w A n xs) (i:Int) (h0:0≤i) (h1:i<n):∃ ad A2 c2 A4 c4,A=some ad∧w.cell? (ad.add (i.toNat * 5))=some (.int .i64 (rd_T162 xs i).f0)∧w.cell? ⟨(ad.add (i.toNat * 5)).block,(ad.add (i.toNat * 5)).off+1,none⟩=some (.int .i64 (rd_T162 xs i).f1)∧w.cell? ⟨(ad.add (i.toNat * 5)).block,(ad.add (i.toNat * 5)).off+2,none⟩=some (.slice A2 (rd_T162 xs i).f2.length c2)∧w.cell? ⟨(ad.add (i.toNat * 5)).block,(ad.add (i.toNat * 5)).off+3,none⟩=some (.int .i64 (rd_T162 xs i).f3.f0)∧w.cell? ⟨(ad.add (i.toNat * 5)).block,(ad.add (i.toNat * 5)).off+4,none⟩=some (.slice A4 (rd_T162 xs i).f3.f1.length c4)∧(rd_T162 xs i).f2.length≤c2∧k165.C w A2 (rd_T162 xs i).f2.length (rd_T162 xs i).f2∧(rd_T162 xs i).f3.f1.length≤c4∧(Kd.int .i64).C w A4 (rd_T162 xs i).f3.f1.length (rd_T162 xs i).f3.f1:=by
 obtain⟨ad,c,e,_,hK,hc0⟩:=Kd.C_get h z162 i h0 h1
 have hc:∀ j u,c[j]? = some u→w.cell? (ad.add (i.toNat * 5+j))=some u:=hc0
 obtain⟨A2,c2,A4,c4,rfl,l2,g2,l4,g4⟩:=k162_open hK
 exact⟨ad,A2,c2,A4,c4,e,hc 0 _ rfl,by rw[← add_field _ _ 1 (by omega)];exact hc 1 _ rfl,by rw[← add_field _ _ 2 (by omega)];exact hc 2 _ rfl,by rw[← add_field _ _ 3 (by omega)];exact hc 3 _ rfl,by rw[← add_field _ _ 4 (by omega)];exact hc 4 _ rfl,l2,g2,l4,g4⟩
structure S140 where
 f0:Int
 f1:Int
 f2:Int
def z140:S140:=⟨(0:Int),(0:Int),(0:Int)⟩
def k140:Kd S140:=Kd.iso (Kd.pair (Kd.int .i64) (Kd.pair (Kd.int .i64) (Kd.int .i64))) (fun x:S140=>(x.f0,x.f1,x.f2))
theorem k140_open {w:World} {x:S140} {cs:List Value} (h:k140.K w x cs):cs=[.int .i64 x.f0,.int .i64 x.f1,.int .i64 x.f2]:=by
 obtain⟨_,_,rfl,rfl,⟨_,_,rfl,rfl,rfl⟩⟩:=h
 exact rfl
theorem k140_openM {w:World} {base:Nat} {ok:Nat→Prop} {x:S140} {cs:List Value} (h:k140.M w base ok x cs):cs=[.int .i64 x.f0,.int .i64 x.f1,.int .i64 x.f2]:=by
 obtain⟨_,_,rfl,rfl,⟨_,_,rfl,rfl,rfl⟩⟩:=h
 exact rfl
theorem k140_mkM (w:World) (base:Nat) (ok:Nat→Prop) (x:S140)  : k140.M w base ok x [.int .i64 x.f0,.int .i64 x.f1,.int .i64 x.f2]:=⟨[.int .i64 x.f0],[.int .i64 x.f1,.int .i64 x.f2],rfl,rfl,⟨[.int .i64 x.f1],[.int .i64 x.f2],rfl,rfl,rfl⟩⟩
def rd_T140 (xs:List S140) (i:Int):S140:=xs.getD i.toNat z140
theorem at_T140 {w:World} {A:Option Addr} {n:Nat} {xs:List S140} (h:Kd.C k140 w A n xs) (i:Int) (h0:0≤i) (h1:i<n):∃ ad , A=some ad∧w.cell? (ad.add (i.toNat * 3))=some (.int .i64 (rd_T140 xs i).f0)∧w.cell? ⟨(ad.add (i.toNat * 3)).block,(ad.add (i.toNat * 3)).off+1,none⟩=some (.int .i64 (rd_T140 xs i).f1)∧w.cell? ⟨(ad.add (i.toNat * 3)).block,(ad.add (i.toNat * 3)).off+2,none⟩=some (.int .i64 (rd_T140 xs i).f2):=by
 obtain⟨ad,c,e,_,hK,hc0⟩:=Kd.C_get h z140 i h0 h1
 have hc:∀ j u,c[j]? = some u→w.cell? (ad.add (i.toNat * 3+j))=some u:=hc0
 obtain rfl:=k140_open hK
 exact⟨ad,e,hc 0 _ rfl,by rw[← add_field _ _ 1 (by omega)];exact hc 1 _ rfl,by rw[← add_field _ _ 2 (by omega)];exact hc 2 _ rfl⟩
structure S69 where
 f0:Int
 f1:Int
 f2:Int
def z69:S69:=⟨(0:Int),(0:Int),(0:Int)⟩
def k69:Kd S69:=Kd.iso (Kd.pair (Kd.int .i64) (Kd.pair (Kd.int .i64) (Kd.int .i64))) (fun x:S69=>(x.f0,x.f1,x.f2))
theorem k69_open {w:World} {x:S69} {cs:List Value} (h:k69.K w x cs):cs=[.int .i64 x.f0,.int .i64 x.f1,.int .i64 x.f2]:=by
 obtain⟨_,_,rfl,rfl,⟨_,_,rfl,rfl,rfl⟩⟩:=h
 exact rfl
theorem k69_openM {w:World} {base:Nat} {ok:Nat→Prop} {x:S69} {cs:List Value} (h:k69.M w base ok x cs):cs=[.int .i64 x.f0,.int .i64 x.f1,.int .i64 x.f2]:=by
 obtain⟨_,_,rfl,rfl,⟨_,_,rfl,rfl,rfl⟩⟩:=h
 exact rfl
theorem k69_mkM (w:World) (base:Nat) (ok:Nat→Prop) (x:S69)  : k69.M w base ok x [.int .i64 x.f0,.int .i64 x.f1,.int .i64 x.f2]:=⟨[.int .i64 x.f0],[.int .i64 x.f1,.int .i64 x.f2],rfl,rfl,⟨[.int .i64 x.f1],[.int .i64 x.f2],rfl,rfl,rfl⟩⟩
def rd_T69 (xs:List S69) (i:Int):S69:=xs.getD i.toNat z69
theorem at_T69 {w:World} {A:Option Addr} {n:Nat} {xs:List S69} (h:Kd.C k69 w A n xs) (i:Int) (h0:0≤i) (h1:i<n):∃ ad , A=some ad∧w.cell? (ad.add (i.toNat * 3))=some (.int .i64 (rd_T69 xs i).f0)∧w.cell? ⟨(ad.add (i.toNat * 3)).block,(ad.add (i.toNat * 3)).off+1,none⟩=some (.int .i64 (rd_T69 xs i).f1)∧w.cell? ⟨(ad.add (i.toNat * 3)).block,(ad.add (i.toNat * 3)).off+2,none⟩=some (.int .i64 (rd_T69 xs i).f2):=by
 obtain⟨ad,c,e,_,hK,hc0⟩:=Kd.C_get h z69 i h0 h1
 have hc:∀ j u,c[j]? = some u→w.cell? (ad.add (i.toNat * 3+j))=some u:=hc0
 obtain rfl:=k69_open hK
 exact⟨ad,e,hc 0 _ rfl,by rw[← add_field _ _ 1 (by omega)];exact hc 1 _ rfl,by rw[← add_field _ _ 2 (by omega)];exact hc 2 _ rfl⟩
structure S172 where
 f0:Int
 f1:Int
def z172:S172:=⟨(0:Int),(0:Int)⟩
def k172:Kd S172:=Kd.iso (Kd.pair (Kd.int .i64) (Kd.int .i64)) (fun x:S172=>(x.f0,x.f1))
theorem k172_open {w:World} {x:S172} {cs:List Value} (h:k172.K w x cs):cs=[.int .i64 x.f0,.int .i64 x.f1]:=by
 obtain⟨_,_,rfl,rfl,rfl⟩:=h
 exact rfl
theorem k172_openM {w:World} {base:Nat} {ok:Nat→Prop} {x:S172} {cs:List Value} (h:k172.M w base ok x cs):cs=[.int .i64 x.f0,.int .i64 x.f1]:=by
 obtain⟨_,_,rfl,rfl,rfl⟩:=h
 exact rfl
theorem k172_mkM (w:World) (base:Nat) (ok:Nat→Prop) (x:S172)  : k172.M w base ok x [.int .i64 x.f0,.int .i64 x.f1]:=⟨[.int .i64 x.f0],[.int .i64 x.f1],rfl,rfl,rfl⟩
def rd_T172 (xs:List S172) (i:Int):S172:=xs.getD i.toNat z172
theorem at_T172 {w:World} {A:Option Addr} {n:Nat} {xs:List S172} (h:Kd.C k172 w A n xs) (i:Int) (h0:0≤i) (h1:i<n):∃ ad , A=some ad∧w.cell? (ad.add (i.toNat * 2))=some (.int .i64 (rd_T172 xs i).f0)∧w.cell? ⟨(ad.add (i.toNat * 2)).block,(ad.add (i.toNat * 2)).off+1,none⟩=some (.int .i64 (rd_T172 xs i).f1):=by
 obtain⟨ad,c,e,_,hK,hc0⟩:=Kd.C_get h z172 i h0 h1
 have hc:∀ j u,c[j]? = some u→w.cell? (ad.add (i.toNat * 2+j))=some u:=hc0
 obtain rfl:=k172_open hK
 exact⟨ad,e,hc 0 _ rfl,by rw[← add_field _ _ 1 (by omega)];exact hc 1 _ rfl⟩
structure S174 where
 f0:Int
 f1:Int
 f2:Int
 f3:Int
def z174:S174:=⟨(0:Int),(0:Int),(0:Int),(0:Int)⟩
def k174:Kd S174:=Kd.iso (Kd.pair (Kd.int .i64) (Kd.pair (Kd.int .i64) (Kd.pair (Kd.int .i64) (Kd.int .i64)))) (fun x:S174=>(x.f0,x.f1,x.f2,x.f3))
theorem k174_open {w:World} {x:S174} {cs:List Value} (h:k174.K w x cs):cs=[.int .i64 x.f0,.int .i64 x.f1,.int .i64 x.f2,.int .i64 x.f3]:=by
 obtain⟨_,_,rfl,rfl,⟨_,_,rfl,rfl,⟨_,_,rfl,rfl,rfl⟩⟩⟩:=h
 exact rfl
theorem k174_openM {w:World} {base:Nat} {ok:Nat→Prop} {x:S174} {cs:List Value} (h:k174.M w base ok x cs):cs=[.int .i64 x.f0,.int .i64 x.f1,.int .i64 x.f2,.int .i64 x.f3]:=by
 obtain⟨_,_,rfl,rfl,⟨_,_,rfl,rfl,⟨_,_,rfl,rfl,rfl⟩⟩⟩:=h
 exact rfl
theorem k174_mkM (w:World) (base:Nat) (ok:Nat→Prop) (x:S174)  : k174.M w base ok x [.int .i64 x.f0,.int .i64 x.f1,.int .i64 x.f2,.int .i64 x.f3]:=⟨[.int .i64 x.f0],[.int .i64 x.f1,.int .i64 x.f2,.int .i64 x.f3],rfl,rfl,⟨[.int .i64 x.f1],[.int .i64 x.f2,.int .i64 x.f3],rfl,rfl,⟨[.int .i64 x.f2],[.int .i64 x.f3],rfl,rfl,rfl⟩⟩⟩
def rd_T174 (xs:List S174) (i:Int):S174:=xs.getD i.toNat z174
theorem at_T174 {w:World} {A:Option Addr} {n:Nat} {xs:List S174} (h:Kd.C k174 w A n xs) (i:Int) (h0:0≤i) (h1:i<n):∃ ad , A=some ad∧w.cell? (ad.add (i.toNat * 4))=some (.int .i64 (rd_T174 xs i).f0)∧w.cell? ⟨(ad.add (i.toNat * 4)).block,(ad.add (i.toNat * 4)).off+1,none⟩=some (.int .i64 (rd_T174 xs i).f1)∧w.cell? ⟨(ad.add (i.toNat * 4)).block,(ad.add (i.toNat * 4)).off+2,none⟩=some (.int .i64 (rd_T174 xs i).f2)∧w.cell? ⟨(ad.add (i.toNat * 4)).block,(ad.add (i.toNat * 4)).off+3,none⟩=some (.int .i64 (rd_T174 xs i).f3):=by
 obtain⟨ad,c,e,_,hK,hc0⟩:=Kd.C_get h z174 i h0 h1
 have hc:∀ j u,c[j]? = some u→w.cell? (ad.add (i.toNat * 4+j))=some u:=hc0
 obtain rfl:=k174_open hK
 exact⟨ad,e,hc 0 _ rfl,by rw[← add_field _ _ 1 (by omega)];exact hc 1 _ rfl,by rw[← add_field _ _ 2 (by omega)];exact hc 2 _ rfl,by rw[← add_field _ _ 3 (by omega)];exact hc 3 _ rfl⟩
structure S97 where
 f0:(List S69)
 f1:Int
 f2:Bool
 f3:(List S172)
 f4:(List S174)
def z97:S97:=⟨([]:List S69),(0:Int),false,([]:List S172),([]:List S174)⟩
def k97:Kd S97:=Kd.iso (Kd.pair (Kd.slice 69 k69) (Kd.pair (Kd.int .i64) (Kd.pair Kd.bool (Kd.pair (Kd.slice 172 k172) (Kd.slice 174 k174))))) (fun x:S97=>(x.f0,x.f1,x.f2,x.f3,x.f4))
theorem k97_open {w:World} {x:S97} {cs:List Value} (h:k97.K w x cs):∃ A0 c0 A3 c3 A4 c4,cs=[.slice A0 x.f0.length c0,.int .i64 x.f1,.bool x.f2,.slice A3 x.f3.length c3,.slice A4 x.f4.length c4]∧x.f0.length≤c0∧k69.C w A0 x.f0.length x.f0∧x.f3.length≤c3∧k172.C w A3 x.f3.length x.f3∧x.f4.length≤c4∧k174.C w A4 x.f4.length x.f4:=by
 obtain⟨_,_,rfl,⟨A0,c0,rfl,l0,g0⟩,⟨_,_,rfl,rfl,⟨_,_,rfl,rfl,⟨_,_,rfl,⟨A3,c3,rfl,l3,g3⟩,⟨A4,c4,rfl,l4,g4⟩⟩⟩⟩⟩:=h
 exact⟨A0,c0,A3,c3,A4,c4,rfl,l0,g0,l3,g3,l4,g4⟩
theorem k97_openM {w:World} {base:Nat} {ok:Nat→Prop} {x:S97} {cs:List Value} (h:k97.M w base ok x cs):∃ v0 v3 v4,cs=[v0,.int .i64 x.f1,.bool x.f2,v3,v4]∧k69.R 69 w base ok v0 x.f0∧k172.R 172 w base ok v3 x.f3∧k174.R 174 w base ok v4 x.f4:=by
 obtain⟨_,_,rfl,⟨v0,rfl,g0⟩,⟨_,_,rfl,rfl,⟨_,_,rfl,rfl,⟨_,_,rfl,⟨v3,rfl,g3⟩,⟨v4,rfl,g4⟩⟩⟩⟩⟩:=h
 exact⟨v0,v3,v4,rfl,g0,g3,g4⟩
theorem k97_mkM (w:World) (base:Nat) (ok:Nat→Prop) (x:S97) {v0:Value} (g0:k69.R 69 w base ok v0 x.f0) {v3:Value} (g3:k172.R 172 w base ok v3 x.f3) {v4:Value} (g4:k174.R 174 w base ok v4 x.f4):k97.M w base ok x [v0,.int .i64 x.f1,.bool x.f2,v3,v4]:=⟨[v0],[.int .i64 x.f1,.bool x.f2,v3,v4],rfl,⟨v0,rfl,g0⟩,⟨[.int .i64 x.f1],[.bool x.f2,v3,v4],rfl,rfl,⟨[.bool x.f2],[v3,v4],rfl,rfl,⟨[v3],[v4],rfl,⟨v3,rfl,g3⟩,⟨v4,rfl,g4⟩⟩⟩⟩⟩
def rd_T97 (xs:List S97) (i:Int):S97:=xs.getD i.toNat z97
theorem at_T97 {w:World} {A:Option Addr} {n:Nat} {xs:List S97} (h:Kd.C k97 w A n xs) (i:Int) (h0:0≤i) (h1:i<n):∃ ad A0 c0 A3 c3 A4 c4,A=some ad∧w.cell? (ad.add (i.toNat * 5))=some (.slice A0 (rd_T97 xs i).f0.length c0)∧w.cell? ⟨(ad.add (i.toNat * 5)).block,(ad.add (i.toNat * 5)).off+1,none⟩=some (.int .i64 (rd_T97 xs i).f1)∧w.cell? ⟨(ad.add (i.toNat * 5)).block,(ad.add (i.toNat * 5)).off+2,none⟩=some (.bool (rd_T97 xs i).f2)∧w.cell? ⟨(ad.add (i.toNat * 5)).block,(ad.add (i.toNat * 5)).off+3,none⟩=some (.slice A3 (rd_T97 xs i).f3.length c3)∧w.cell? ⟨(ad.add (i.toNat * 5)).block,(ad.add (i.toNat * 5)).off+4,none⟩=some (.slice A4 (rd_T97 xs i).f4.length c4)∧(rd_T97 xs i).f0.length≤c0∧k69.C w A0 (rd_T97 xs i).f0.length (rd_T97 xs i).f0∧(rd_T97 xs i).f3.length≤c3∧k172.C w A3 (rd_T97 xs i).f3.length (rd_T97 xs i).f3∧(rd_T97 xs i).f4.length≤c4∧k174.C w A4 (rd_T97 xs i).f4.length (rd_T97 xs i).f4:=by
 obtain⟨ad,c,e,_,hK,hc0⟩:=Kd.C_get h z97 i h0 h1
 have hc:∀ j u,c[j]? = some u→w.cell? (ad.add (i.toNat * 5+j))=some u:=hc0
 obtain⟨A0,c0,A3,c3,A4,c4,rfl,l0,g0,l3,g3,l4,g4⟩:=k97_open hK
 exact⟨ad,A0,c0,A3,c3,A4,c4,e,hc 0 _ rfl,by rw[← add_field _ _ 1 (by omega)];exact hc 1 _ rfl,by rw[← add_field _ _ 2 (by omega)];exact hc 2 _ rfl,by rw[← add_field _ _ 3 (by omega)];exact hc 3 _ rfl,by rw[← add_field _ _ 4 (by omega)];exact hc 4 _ rfl,l0,g0,l3,g3,l4,g4⟩
structure S73 where
 f0:Int
 f1:S69
 f2:Int
 f3:Int
 f4:Int
 f5:S71
def z73:S73:=⟨(0:Int),z69,(0:Int),(0:Int),(0:Int),z71⟩
def k73:Kd S73:=Kd.iso (Kd.pair (Kd.int .i64) (Kd.pair k69 (Kd.pair (Kd.int .i64) (Kd.pair (Kd.int .i64) (Kd.pair (Kd.int .i64) k71))))) (fun x:S73=>(x.f0,x.f1,x.f2,x.f3,x.f4,x.f5))
theorem k73_open {w:World} {x:S73} {cs:List Value} (h:k73.K w x cs):∃ A8 c8,cs=[.int .i64 x.f0,.int .i64 x.f1.f0,.int .i64 x.f1.f1,.int .i64 x.f1.f2,.int .i64 x.f2,.int .i64 x.f3,.int .i64 x.f4,.int .i64 x.f5.f0,.slice A8 x.f5.f1.length c8]∧x.f5.f1.length≤c8∧(Kd.int .i64).C w A8 x.f5.f1.length x.f5.f1:=by
 obtain⟨_,_,rfl,rfl,⟨_,_,rfl,s1,⟨_,_,rfl,rfl,⟨_,_,rfl,rfl,⟨_,_,rfl,rfl,s7⟩⟩⟩⟩⟩:=h
 obtain rfl:=k69_open s1
 obtain⟨A8,c8,rfl,l8,g8⟩:=k71_open s7
 exact⟨A8,c8,rfl,l8,g8⟩
theorem k73_openM {w:World} {base:Nat} {ok:Nat→Prop} {x:S73} {cs:List Value} (h:k73.M w base ok x cs):∃ v8,cs=[.int .i64 x.f0,.int .i64 x.f1.f0,.int .i64 x.f1.f1,.int .i64 x.f1.f2,.int .i64 x.f2,.int .i64 x.f3,.int .i64 x.f4,.int .i64 x.f5.f0,v8]∧(Kd.int .i64).R 3 w base ok v8 x.f5.f1:=by
 obtain⟨_,_,rfl,rfl,⟨_,_,rfl,s1,⟨_,_,rfl,rfl,⟨_,_,rfl,rfl,⟨_,_,rfl,rfl,s7⟩⟩⟩⟩⟩:=h
 obtain rfl:=k69_openM s1
 obtain⟨v8,rfl,g8⟩:=k71_openM s7
 exact⟨v8,rfl,g8⟩
theorem k73_mkM (w:World) (base:Nat) (ok:Nat→Prop) (x:S73) {v8:Value} (g8:(Kd.int .i64).R 3 w base ok v8 x.f5.f1):k73.M w base ok x [.int .i64 x.f0,.int .i64 x.f1.f0,.int .i64 x.f1.f1,.int .i64 x.f1.f2,.int .i64 x.f2,.int .i64 x.f3,.int .i64 x.f4,.int .i64 x.f5.f0,v8]:=⟨[.int .i64 x.f0],[.int .i64 x.f1.f0,.int .i64 x.f1.f1,.int .i64 x.f1.f2,.int .i64 x.f2,.int .i64 x.f3,.int .i64 x.f4,.int .i64 x.f5.f0,v8],rfl,rfl,⟨[.int .i64 x.f1.f0,.int .i64 x.f1.f1,.int .i64 x.f1.f2],[.int .i64 x.f2,.int .i64 x.f3,.int .i64 x.f4,.int .i64 x.f5.f0,v8],rfl,(k69_mkM w base ok x.f1 ),⟨[.int .i64 x.f2],[.int .i64 x.f3,.int .i64 x.f4,.int .i64 x.f5.f0,v8],rfl,rfl,⟨[.int .i64 x.f3],[.int .i64 x.f4,.int .i64 x.f5.f0,v8],rfl,rfl,⟨[.int .i64 x.f4],[.int .i64 x.f5.f0,v8],rfl,rfl,(k71_mkM w base ok x.f5 g8)⟩⟩⟩⟩⟩
def rd_T73 (xs:List S73) (i:Int):S73:=xs.getD i.toNat z73
theorem at_T73 {w:World} {A:Option Addr} {n:Nat} {xs:List S73} (h:Kd.C k73 w A n xs) (i:Int) (h0:0≤i) (h1:i<n):∃ ad A8 c8,A=some ad∧w.cell? (ad.add (i.toNat * 9))=some (.int .i64 (rd_T73 xs i).f0)∧w.cell? ⟨(ad.add (i.toNat * 9)).block,(ad.add (i.toNat * 9)).off+1,none⟩=some (.int .i64 (rd_T73 xs i).f1.f0)∧w.cell? ⟨(ad.add (i.toNat * 9)).block,(ad.add (i.toNat * 9)).off+2,none⟩=some (.int .i64 (rd_T73 xs i).f1.f1)∧w.cell? ⟨(ad.add (i.toNat * 9)).block,(ad.add (i.toNat * 9)).off+3,none⟩=some (.int .i64 (rd_T73 xs i).f1.f2)∧w.cell? ⟨(ad.add (i.toNat * 9)).block,(ad.add (i.toNat * 9)).off+4,none⟩=some (.int .i64 (rd_T73 xs i).f2)∧w.cell? ⟨(ad.add (i.toNat * 9)).block,(ad.add (i.toNat * 9)).off+5,none⟩=some (.int .i64 (rd_T73 xs i).f3)∧w.cell? ⟨(ad.add (i.toNat * 9)).block,(ad.add (i.toNat * 9)).off+6,none⟩=some (.int .i64 (rd_T73 xs i).f4)∧w.cell? ⟨(ad.add (i.toNat * 9)).block,(ad.add (i.toNat * 9)).off+7,none⟩=some (.int .i64 (rd_T73 xs i).f5.f0)∧w.cell? ⟨(ad.add (i.toNat * 9)).block,(ad.add (i.toNat * 9)).off+8,none⟩=some (.slice A8 (rd_T73 xs i).f5.f1.length c8)∧(rd_T73 xs i).f5.f1.length≤c8∧(Kd.int .i64).C w A8 (rd_T73 xs i).f5.f1.length (rd_T73 xs i).f5.f1:=by
 obtain⟨ad,c,e,_,hK,hc0⟩:=Kd.C_get h z73 i h0 h1
 have hc:∀ j u,c[j]? = some u→w.cell? (ad.add (i.toNat * 9+j))=some u:=hc0
 obtain⟨A8,c8,rfl,l8,g8⟩:=k73_open hK
 exact⟨ad,A8,c8,e,hc 0 _ rfl,by rw[← add_field _ _ 1 (by omega)];exact hc 1 _ rfl,by rw[← add_field _ _ 2 (by omega)];exact hc 2 _ rfl,by rw[← add_field _ _ 3 (by omega)];exact hc 3 _ rfl,by rw[← add_field _ _ 4 (by omega)];exact hc 4 _ rfl,by rw[← add_field _ _ 5 (by omega)];exact hc 5 _ rfl,by rw[← add_field _ _ 6 (by omega)];exact hc 6 _ rfl,by rw[← add_field _ _ 7 (by omega)];exact hc 7 _ rfl,by rw[← add_field _ _ 8 (by omega)];exact hc 8 _ rfl,l8,g8⟩
structure S25 where
 f0:(List S176)
 f1:(List S155)
def k25:Kd S25:=Kd.iso (Kd.pair (Kd.slice 176 k176) (Kd.slice 155 k155)) (fun x:S25=>(x.f0,x.f1))
theorem k25_open {w:World} {x:S25} {cs:List Value} (h:k25.K w x cs):∃ A0 c0 A1 c1,cs=[.slice A0 x.f0.length c0,.slice A1 x.f1.length c1]∧x.f0.length≤c0∧k176.C w A0 x.f0.length x.f0∧x.f1.length≤c1∧k155.C w A1 x.f1.length x.f1:=by
 obtain⟨_,_,rfl,⟨A0,c0,rfl,l0,g0⟩,⟨A1,c1,rfl,l1,g1⟩⟩:=h
 exact⟨A0,c0,A1,c1,rfl,l0,g0,l1,g1⟩
structure S30 where
 f0:(List Int)
 f1:Int
def k30:Kd S30:=Kd.iso (Kd.pair (Kd.slice 3 (Kd.int .i64)) (Kd.int .i64)) (fun x:S30=>(x.f0,x.f1))
theorem k30_open {w:World} {x:S30} {cs:List Value} (h:k30.K w x cs):∃ A0 c0,cs=[.slice A0 x.f0.length c0,.int .i64 x.f1]∧x.f0.length≤c0∧(Kd.int .i64).C w A0 x.f0.length x.f0:=by
 obtain⟨_,_,rfl,⟨A0,c0,rfl,l0,g0⟩,rfl⟩:=h
 exact⟨A0,c0,rfl,l0,g0⟩
structure S32 where
 f0:S25
 f1:(List S114)
 f2:Int
 f3:(List S119)
 f4:(List Int)
 f5:S30
def k32:Kd S32:=Kd.iso (Kd.pair k25 (Kd.pair (Kd.slice 114 k114) (Kd.pair (Kd.int .i64) (Kd.pair (Kd.slice 119 k119) (Kd.pair (Kd.slice 3 (Kd.int .i64)) k30))))) (fun x:S32=>(x.f0,x.f1,x.f2,x.f3,x.f4,x.f5))
theorem k32_open {w:World} {x:S32} {cs:List Value} (h:k32.K w x cs):∃ A0 c0 A1 c1 A2 c2 A4 c4 A5 c5 A6 c6,cs=[.slice A0 x.f0.f0.length c0,.slice A1 x.f0.f1.length c1,.slice A2 x.f1.length c2,.int .i64 x.f2,.slice A4 x.f3.length c4,.slice A5 x.f4.length c5,.slice A6 x.f5.f0.length c6,.int .i64 x.f5.f1]∧x.f0.f0.length≤c0∧k176.C w A0 x.f0.f0.length x.f0.f0∧x.f0.f1.length≤c1∧k155.C w A1 x.f0.f1.length x.f0.f1∧x.f1.length≤c2∧k114.C w A2 x.f1.length x.f1∧x.f3.length≤c4∧k119.C w A4 x.f3.length x.f3∧x.f4.length≤c5∧(Kd.int .i64).C w A5 x.f4.length x.f4∧x.f5.f0.length≤c6∧(Kd.int .i64).C w A6 x.f5.f0.length x.f5.f0:=by
 obtain⟨_,_,rfl,s0,⟨_,_,rfl,⟨A2,c2,rfl,l2,g2⟩,⟨_,_,rfl,rfl,⟨_,_,rfl,⟨A4,c4,rfl,l4,g4⟩,⟨_,_,rfl,⟨A5,c5,rfl,l5,g5⟩,s6⟩⟩⟩⟩⟩:=h
 obtain⟨A0,c0,A1,c1,rfl,l0,g0,l1,g1⟩:=k25_open s0
 obtain⟨A6,c6,rfl,l6,g6⟩:=k30_open s6
 exact⟨A0,c0,A1,c1,A2,c2,A4,c4,A5,c5,A6,c6,rfl,l0,g0,l1,g1,l2,g2,l4,g4,l5,g5,l6,g6⟩
end Go.Proofs.YtmljebgideecjaaGreat.P2
