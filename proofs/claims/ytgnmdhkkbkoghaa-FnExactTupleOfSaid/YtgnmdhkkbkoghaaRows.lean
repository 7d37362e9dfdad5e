/-
  No cell of these rows narrows 'for every input' (looked for: loops, veiled, ifaces, maps, wideKeys, modest, calm, conditions, laid).
  DERIVED. THE GIVEN ROWS OF THIS SEAT. 12 by the template 'for every input the law returns true; each argument reads behind the call as it read before'; 0 by the template 'total and deterministic' (their statements: YtgnmdhkkbkoghaaTotals.lean).
  GIVEN WITH THE SEED: the statements are not yours to turn. If you find one false, say at which input.
  Laid BY PROGRAM, IN A SANDBOX (cutbox-rows.mjs): the forced cells as the released guide's own fill.sh prints them over the translation 6628aa2afb78aae9… (all of the seat's roots in one cut). By AI agents, Wed Nov 11 2026. No macro, syntax, notation, axiom, sorry.
-/
import Derived.Test.YtgnmdhkkbkoghaaChecked
import GoSem.Claim
import GoSem.ClaimJoined
import GoSem.ClaimMapViews
import Derived.JoinedTies
import Derived.KernelRfl
namespace Go.Proofs.Ytgnmdhkkbkoghaa
/- THE CELL 'sum', in the pinned program and in every row, IS THE sha256 OF THE DUMP (.gsa) THAT YtgnmdhkkbkoghaaProg.lean LOADS. Nothing in Lean hashes anything: it is a label: what it is worth is what the hold of that sum in a sandbox is worth. -/
noncomputable def Try.pinned : Pinned := { name := "ytgnmdhkkbkoghaa", sum := "6628aa2afb78aae9038da01e047642884bf731e3879e84a4722d5d4eebac2bdf", checked := Try.checked }
namespace Rows
def none {H : Type} : Left H := { results := [], args := [] }

/-- 'laws.FnExactBound': WHATEVER THE INPUT: true; the input reads as it did. -/
def fnExactBoundSpec : ChangeSpec := { name := "fnExactBound", fn := fun _ => fun
  | [d] => { results := [.lit (.bool true)], args := [d] }
  | _ => none }
def fnExactBoundRow : OpenClaim := { program := "ytgnmdhkkbkoghaa", sum := "6628aa2afb78aae9038da01e047642884bf731e3879e84a4722d5d4eebac2bdf", func := "loop.example/g00468/laws.FnExactBound", spec := "fnExactBound", apart := false }
def FnExactBoundSaid : Prop := fnExactBoundRow.holds Try.pinned (OpenSpec.ofChange fnExactBoundSpec)

/-- ITS FALSE NEIGHBOUR: 'it returns false'. Refute it at one input. -/
def fnExactBoundWrong : ChangeSpec := { name := "fnExactBound", fn := fun _ => fun
  | [d] => { results := [.lit (.bool false)], args := [d] }
  | _ => none }
def FnExactBoundWrongFalsely : Prop := fnExactBoundRow.holds Try.pinned (OpenSpec.ofChange fnExactBoundWrong)

/-- 'laws.FnExactValueSame': WHATEVER THE INPUT: true; the input reads as it did. -/
def fnExactValueSameSpec : ChangeSpec := { name := "fnExactValueSame", fn := fun _ => fun
  | [d1, d2] => { results := [.lit (.bool true)], args := [d1, d2] }
  | _ => none }
def fnExactValueSameRow : OpenClaim := { program := "ytgnmdhkkbkoghaa", sum := "6628aa2afb78aae9038da01e047642884bf731e3879e84a4722d5d4eebac2bdf", func := "loop.example/g00468/laws.FnExactValueSame", spec := "fnExactValueSame", apart := false }
def FnExactValueSameSaid : Prop := fnExactValueSameRow.holds Try.pinned (OpenSpec.ofChange fnExactValueSameSpec)

/-- ITS FALSE NEIGHBOUR: 'it returns false'. Refute it at one input. -/
def fnExactValueSameWrong : ChangeSpec := { name := "fnExactValueSame", fn := fun _ => fun
  | [d1, d2] => { results := [.lit (.bool false)], args := [d1, d2] }
  | _ => none }
def FnExactValueSameWrongFalsely : Prop := fnExactValueSameRow.holds Try.pinned (OpenSpec.ofChange fnExactValueSameWrong)

/-- 'laws.FnExactColNameOk': WHATEVER THE INPUT: true; the input reads as it did. -/
def fnExactColNameOkSpec : ChangeSpec := { name := "fnExactColNameOk", fn := fun _ => fun
  | [d] => { results := [.lit (.bool true)], args := [d] }
  | _ => none }
def fnExactColNameOkRow : OpenClaim := { program := "ytgnmdhkkbkoghaa", sum := "6628aa2afb78aae9038da01e047642884bf731e3879e84a4722d5d4eebac2bdf", func := "loop.example/g00468/laws.FnExactColNameOk", spec := "fnExactColNameOk", apart := false }
def FnExactColNameOkSaid : Prop := fnExactColNameOkRow.holds Try.pinned (OpenSpec.ofChange fnExactColNameOkSpec)

/-- ITS FALSE NEIGHBOUR: 'it returns false'. Refute it at one input. -/
def fnExactColNameOkWrong : ChangeSpec := { name := "fnExactColNameOk", fn := fun _ => fun
  | [d] => { results := [.lit (.bool false)], args := [d] }
  | _ => none }
def FnExactColNameOkWrongFalsely : Prop := fnExactColNameOkRow.holds Try.pinned (OpenSpec.ofChange fnExactColNameOkWrong)

/-- 'laws.FnExactValueLess': WHATEVER THE INPUT: true; the input reads as it did. -/
def fnExactValueLessSpec : ChangeSpec := { name := "fnExactValueLess", fn := fun _ => fun
  | [d1, d2] => { results := [.lit (.bool true)], args := [d1, d2] }
  | _ => none }
def fnExactValueLessRow : OpenClaim := { program := "ytgnmdhkkbkoghaa", sum := "6628aa2afb78aae9038da01e047642884bf731e3879e84a4722d5d4eebac2bdf", func := "loop.example/g00468/laws.FnExactValueLess", spec := "fnExactValueLess", inPlace := ["internal/bytealg.abigen_runtime_cmpstring"], apart := false }
def FnExactValueLessSaid : Prop := fnExactValueLessRow.holds Try.pinned (OpenSpec.ofChange fnExactValueLessSpec)

/-- ITS FALSE NEIGHBOUR: 'it returns false'. Refute it at one input. -/
def fnExactValueLessWrong : ChangeSpec := { name := "fnExactValueLess", fn := fun _ => fun
  | [d1, d2] => { results := [.lit (.bool false)], args := [d1, d2] }
  | _ => none }
def FnExactValueLessWrongFalsely : Prop := fnExactValueLessRow.holds Try.pinned (OpenSpec.ofChange fnExactValueLessWrong)

/-- 'laws.FnExactValueOk': WHATEVER THE INPUT: true; the input reads as it did. -/
def fnExactValueOkSpec : ChangeSpec := { name := "fnExactValueOk", fn := fun _ => fun
  | [d] => { results := [.lit (.bool true)], args := [d] }
  | _ => none }
def fnExactValueOkRow : OpenClaim := { program := "ytgnmdhkkbkoghaa", sum := "6628aa2afb78aae9038da01e047642884bf731e3879e84a4722d5d4eebac2bdf", func := "loop.example/g00468/laws.FnExactValueOk", spec := "fnExactValueOk", apart := false }
def FnExactValueOkSaid : Prop := fnExactValueOkRow.holds Try.pinned (OpenSpec.ofChange fnExactValueOkSpec)

/-- ITS FALSE NEIGHBOUR: 'it returns false'. Refute it at one input. -/
def fnExactValueOkWrong : ChangeSpec := { name := "fnExactValueOk", fn := fun _ => fun
  | [d] => { results := [.lit (.bool false)], args := [d] }
  | _ => none }
def FnExactValueOkWrongFalsely : Prop := fnExactValueOkRow.holds Try.pinned (OpenSpec.ofChange fnExactValueOkWrong)

/-- 'laws.FnExactTupleLess': WHATEVER THE INPUT: true; the input reads as it did. -/
def fnExactTupleLessSpec : ChangeSpec := { name := "fnExactTupleLess", fn := fun _ => fun
  | [d1, d2] => { results := [.lit (.bool true)], args := [d1, d2] }
  | _ => none }
def fnExactTupleLessRow : OpenClaim := { program := "ytgnmdhkkbkoghaa", sum := "6628aa2afb78aae9038da01e047642884bf731e3879e84a4722d5d4eebac2bdf", func := "loop.example/g00468/laws.FnExactTupleLess", spec := "fnExactTupleLess", inPlace := ["internal/bytealg.abigen_runtime_cmpstring"], unfollowed := true, recurses := true, apart := false }
def FnExactTupleLessSaid : Prop := fnExactTupleLessRow.holds Try.pinned (OpenSpec.ofChange fnExactTupleLessSpec)

/-- ITS FALSE NEIGHBOUR: 'it returns false'. Refute it at one input. -/
def fnExactTupleLessWrong : ChangeSpec := { name := "fnExactTupleLess", fn := fun _ => fun
  | [d1, d2] => { results := [.lit (.bool false)], args := [d1, d2] }
  | _ => none }
def FnExactTupleLessWrongFalsely : Prop := fnExactTupleLessRow.holds Try.pinned (OpenSpec.ofChange fnExactTupleLessWrong)

/-- 'laws.FnExactTupleOk': WHATEVER THE INPUT: true; the input reads as it did. -/
def fnExactTupleOkSpec : ChangeSpec := { name := "fnExactTupleOk", fn := fun _ => fun
  | [d] => { results := [.lit (.bool true)], args := [d] }
  | _ => none }
def fnExactTupleOkRow : OpenClaim := { program := "ytgnmdhkkbkoghaa", sum := "6628aa2afb78aae9038da01e047642884bf731e3879e84a4722d5d4eebac2bdf", func := "loop.example/g00468/laws.FnExactTupleOk", spec := "fnExactTupleOk", unfollowed := true, recurses := true, apart := false }
def FnExactTupleOkSaid : Prop := fnExactTupleOkRow.holds Try.pinned (OpenSpec.ofChange fnExactTupleOkSpec)

/-- ITS FALSE NEIGHBOUR: 'it returns false'. Refute it at one input. -/
def fnExactTupleOkWrong : ChangeSpec := { name := "fnExactTupleOk", fn := fun _ => fun
  | [d] => { results := [.lit (.bool false)], args := [d] }
  | _ => none }
def FnExactTupleOkWrongFalsely : Prop := fnExactTupleOkRow.holds Try.pinned (OpenSpec.ofChange fnExactTupleOkWrong)

/-- 'laws.FnExactValueText': WHATEVER THE INPUT: true; the input reads as it did. -/
def fnExactValueTextSpec : ChangeSpec := { name := "fnExactValueText", fn := fun _ => fun
  | [d] => { results := [.lit (.bool true)], args := [d] }
  | _ => none }
def fnExactValueTextRow : OpenClaim := { program := "ytgnmdhkkbkoghaa", sum := "6628aa2afb78aae9038da01e047642884bf731e3879e84a4722d5d4eebac2bdf", func := "loop.example/g00468/laws.FnExactValueText", spec := "fnExactValueText", recurses := true, apart := false }
def FnExactValueTextSaid : Prop := fnExactValueTextRow.holds Try.pinned (OpenSpec.ofChange fnExactValueTextSpec)

/-- ITS FALSE NEIGHBOUR: 'it returns false'. Refute it at one input. -/
def fnExactValueTextWrong : ChangeSpec := { name := "fnExactValueText", fn := fun _ => fun
  | [d] => { results := [.lit (.bool false)], args := [d] }
  | _ => none }
def FnExactValueTextWrongFalsely : Prop := fnExactValueTextRow.holds Try.pinned (OpenSpec.ofChange fnExactValueTextWrong)

/-- 'laws.FnExactProject': WHATEVER THE INPUT: true; the input reads as it did. -/
def fnExactProjectSpec : ChangeSpec := { name := "fnExactProject", fn := fun _ => fun
  | [d1, d2] => { results := [.lit (.bool true)], args := [d1, d2] }
  | _ => none }
def fnExactProjectRow : OpenClaim := { program := "ytgnmdhkkbkoghaa", sum := "6628aa2afb78aae9038da01e047642884bf731e3879e84a4722d5d4eebac2bdf", func := "loop.example/g00468/laws.FnExactProject", spec := "fnExactProject", apart := false }
def FnExactProjectSaid : Prop := fnExactProjectRow.holds Try.pinned (OpenSpec.ofChange fnExactProjectSpec)

/-- ITS FALSE NEIGHBOUR: 'it returns false'. Refute it at one input. -/
def fnExactProjectWrong : ChangeSpec := { name := "fnExactProject", fn := fun _ => fun
  | [d1, d2] => { results := [.lit (.bool false)], args := [d1, d2] }
  | _ => none }
def FnExactProjectWrongFalsely : Prop := fnExactProjectRow.holds Try.pinned (OpenSpec.ofChange fnExactProjectWrong)

/-- 'laws.FnExactTupleBytes': WHATEVER THE INPUT: true; the input reads as it did. -/
def fnExactTupleBytesSpec : ChangeSpec := { name := "fnExactTupleBytes", fn := fun _ => fun
  | [d] => { results := [.lit (.bool true)], args := [d] }
  | _ => none }
def fnExactTupleBytesRow : OpenClaim := { program := "ytgnmdhkkbkoghaa", sum := "6628aa2afb78aae9038da01e047642884bf731e3879e84a4722d5d4eebac2bdf", func := "loop.example/g00468/laws.FnExactTupleBytes", spec := "fnExactTupleBytes", unfollowed := true, recurses := true, apart := false }
def FnExactTupleBytesSaid : Prop := fnExactTupleBytesRow.holds Try.pinned (OpenSpec.ofChange fnExactTupleBytesSpec)

/-- ITS FALSE NEIGHBOUR: 'it returns false'. Refute it at one input. -/
def fnExactTupleBytesWrong : ChangeSpec := { name := "fnExactTupleBytes", fn := fun _ => fun
  | [d] => { results := [.lit (.bool false)], args := [d] }
  | _ => none }
def FnExactTupleBytesWrongFalsely : Prop := fnExactTupleBytesRow.holds Try.pinned (OpenSpec.ofChange fnExactTupleBytesWrong)

/-- 'laws.FnExactTupleText': WHATEVER THE INPUT: true; the input reads as it did. -/
def fnExactTupleTextSpec : ChangeSpec := { name := "fnExactTupleText", fn := fun _ => fun
  | [d] => { results := [.lit (.bool true)], args := [d] }
  | _ => none }
def fnExactTupleTextRow : OpenClaim := { program := "ytgnmdhkkbkoghaa", sum := "6628aa2afb78aae9038da01e047642884bf731e3879e84a4722d5d4eebac2bdf", func := "loop.example/g00468/laws.FnExactTupleText", spec := "fnExactTupleText", inPlace := ["internal/abi.NoEscape", "internal/bytealg.MakeNoZero"], recurses := true, apart := false }
def FnExactTupleTextSaid : Prop := fnExactTupleTextRow.holds Try.pinned (OpenSpec.ofChange fnExactTupleTextSpec)

/-- ITS FALSE NEIGHBOUR: 'it returns false'. Refute it at one input. -/
def fnExactTupleTextWrong : ChangeSpec := { name := "fnExactTupleText", fn := fun _ => fun
  | [d] => { results := [.lit (.bool false)], args := [d] }
  | _ => none }
def FnExactTupleTextWrongFalsely : Prop := fnExactTupleTextRow.holds Try.pinned (OpenSpec.ofChange fnExactTupleTextWrong)

/-- 'laws.FnExactTupleOf': WHATEVER THE INPUT: true; the input reads as it did. -/
def fnExactTupleOfSpec : ChangeSpec := { name := "fnExactTupleOf", fn := fun _ => fun
  | [d] => { results := [.lit (.bool true)], args := [d] }
  | _ => none }
def fnExactTupleOfRow : OpenClaim := { program := "ytgnmdhkkbkoghaa", sum := "6628aa2afb78aae9038da01e047642884bf731e3879e84a4722d5d4eebac2bdf", func := "loop.example/g00468/laws.FnExactTupleOf", spec := "fnExactTupleOf", unfollowed := true, recurses := true, apart := false }
def FnExactTupleOfSaid : Prop := fnExactTupleOfRow.holds Try.pinned (OpenSpec.ofChange fnExactTupleOfSpec)

/-- ITS FALSE NEIGHBOUR: 'it returns false'. Refute it at one input. -/
def fnExactTupleOfWrong : ChangeSpec := { name := "fnExactTupleOf", fn := fun _ => fun
  | [d] => { results := [.lit (.bool false)], args := [d] }
  | _ => none }
def FnExactTupleOfWrongFalsely : Prop := fnExactTupleOfRow.holds Try.pinned (OpenSpec.ofChange fnExactTupleOfWrong)

/- THE SECOND FORM. 'bulk': how many values and letters a reading holds, each counted each time it is reached (what is shared counts as often as it is met; a slice's spare places count too). A statement '..UptoSaid' is the law's where the arguments, and the package variables that the reading takes, are together of bulk at most 1048576: NARROWER than '..Said'. Prove '..Said' where nothing that the law and all that it calls make is longer than what came in: it says more and counts as full. Else prove '..UptoSaid'. A law counts once. -/
mutual
def uptoBulk {H : Type} : DataW H → Nat
  | .lit (.string bytes) => bytes.length + 1
  | .lit _ => 1
  | .nil => 1
  | .ptr d => uptoBulk d + 1
  | .slice elems spare => uptoBulkAll elems + uptoBulkAll spare + 1
  | .agg parts => uptoBulkAll parts + 1
  | .iface _ d => uptoBulk d + 1
  | .map entries => uptoBulkEntries entries + 1
  | .held _ => 1
def uptoBulkAll {H : Type} : List (DataW H) → Nat
  | [] => 0
  | d :: r => uptoBulk d + uptoBulkAll r
def uptoBulkEntries {H : Type} : List (Lit × DataW H) → Nat
  | [] => 0
  | x :: r => uptoBulkEntry x + uptoBulkEntries r
def uptoBulkEntry {H : Type} : Lit × DataW H → Nat
  | (.string bytes, d) => bytes.length + uptoBulk d + 1
  | (_, d) => uptoBulk d + 1
 end
def uptoSmall : (H : Type) → List (DataW H) → Bool := fun _ ds => decide (uptoBulkAll ds ≤ 1048576)
def OpenSpec.upto (s : _root_.Go.ChangeSpec) : _root_.Go.OpenSpec := { _root_.Go.OpenSpec.ofChange s with cond := some uptoSmall }

/-- 'laws.FnExactBound', WHERE WHAT IT READS IS OF BULK AT MOST 1048576: true; the input reads as it did. -/
def fnExactBoundUptoRow : OpenClaim := { program := "ytgnmdhkkbkoghaa", sum := "6628aa2afb78aae9038da01e047642884bf731e3879e84a4722d5d4eebac2bdf", func := "loop.example/g00468/laws.FnExactBound", spec := "fnExactBound", apart := false, narrowed := true }
def FnExactBoundUptoSaid : Prop := fnExactBoundUptoRow.holds Try.pinned (OpenSpec.upto fnExactBoundSpec)

/-- 'laws.FnExactValueSame', WHERE WHAT IT READS IS OF BULK AT MOST 1048576: true; the input reads as it did. -/
def fnExactValueSameUptoRow : OpenClaim := { program := "ytgnmdhkkbkoghaa", sum := "6628aa2afb78aae9038da01e047642884bf731e3879e84a4722d5d4eebac2bdf", func := "loop.example/g00468/laws.FnExactValueSame", spec := "fnExactValueSame", apart := false, narrowed := true }
def FnExactValueSameUptoSaid : Prop := fnExactValueSameUptoRow.holds Try.pinned (OpenSpec.upto fnExactValueSameSpec)

/-- 'laws.FnExactColNameOk', WHERE WHAT IT READS IS OF BULK AT MOST 1048576: true; the input reads as it did. -/
def fnExactColNameOkUptoRow : OpenClaim := { program := "ytgnmdhkkbkoghaa", sum := "6628aa2afb78aae9038da01e047642884bf731e3879e84a4722d5d4eebac2bdf", func := "loop.example/g00468/laws.FnExactColNameOk", spec := "fnExactColNameOk", apart := false, narrowed := true }
def FnExactColNameOkUptoSaid : Prop := fnExactColNameOkUptoRow.holds Try.pinned (OpenSpec.upto fnExactColNameOkSpec)

/-- 'laws.FnExactValueLess', WHERE WHAT IT READS IS OF BULK AT MOST 1048576: true; the input reads as it did. -/
def fnExactValueLessUptoRow : OpenClaim := { program := "ytgnmdhkkbkoghaa", sum := "6628aa2afb78aae9038da01e047642884bf731e3879e84a4722d5d4eebac2bdf", func := "loop.example/g00468/laws.FnExactValueLess", spec := "fnExactValueLess", inPlace := ["internal/bytealg.abigen_runtime_cmpstring"], apart := false, narrowed := true }
def FnExactValueLessUptoSaid : Prop := fnExactValueLessUptoRow.holds Try.pinned (OpenSpec.upto fnExactValueLessSpec)

/-- 'laws.FnExactValueOk', WHERE WHAT IT READS IS OF BULK AT MOST 1048576: true; the input reads as it did. -/
def fnExactValueOkUptoRow : OpenClaim := { program := "ytgnmdhkkbkoghaa", sum := "6628aa2afb78aae9038da01e047642884bf731e3879e84a4722d5d4eebac2bdf", func := "loop.example/g00468/laws.FnExactValueOk", spec := "fnExactValueOk", apart := false, narrowed := true }
def FnExactValueOkUptoSaid : Prop := fnExactValueOkUptoRow.holds Try.pinned (OpenSpec.upto fnExactValueOkSpec)

/-- 'laws.FnExactTupleLess', WHERE WHAT IT READS IS OF BULK AT MOST 1048576: true; the input reads as it did. -/
def fnExactTupleLessUptoRow : OpenClaim := { program := "ytgnmdhkkbkoghaa", sum := "6628aa2afb78aae9038da01e047642884bf731e3879e84a4722d5d4eebac2bdf", func := "loop.example/g00468/laws.FnExactTupleLess", spec := "fnExactTupleLess", inPlace := ["internal/bytealg.abigen_runtime_cmpstring"], unfollowed := true, recurses := true, apart := false, narrowed := true }
def FnExactTupleLessUptoSaid : Prop := fnExactTupleLessUptoRow.holds Try.pinned (OpenSpec.upto fnExactTupleLessSpec)

/-- 'laws.FnExactTupleOk', WHERE WHAT IT READS IS OF BULK AT MOST 1048576: true; the input reads as it did. -/
def fnExactTupleOkUptoRow : OpenClaim := { program := "ytgnmdhkkbkoghaa", sum := "6628aa2afb78aae9038da01e047642884bf731e3879e84a4722d5d4eebac2bdf", func := "loop.example/g00468/laws.FnExactTupleOk", spec := "fnExactTupleOk", unfollowed := true, recurses := true, apart := false, narrowed := true }
def FnExactTupleOkUptoSaid : Prop := fnExactTupleOkUptoRow.holds Try.pinned (OpenSpec.upto fnExactTupleOkSpec)

/-- 'laws.FnExactValueText', WHERE WHAT IT READS IS OF BULK AT MOST 1048576: true; the input reads as it did. -/
def fnExactValueTextUptoRow : OpenClaim := { program := "ytgnmdhkkbkoghaa", sum := "6628aa2afb78aae9038da01e047642884bf731e3879e84a4722d5d4eebac2bdf", func := "loop.example/g00468/laws.FnExactValueText", spec := "fnExactValueText", recurses := true, apart := false, narrowed := true }
def FnExactValueTextUptoSaid : Prop := fnExactValueTextUptoRow.holds Try.pinned (OpenSpec.upto fnExactValueTextSpec)

/-- 'laws.FnExactProject', WHERE WHAT IT READS IS OF BULK AT MOST 1048576: true; the input reads as it did. -/
def fnExactProjectUptoRow : OpenClaim := { program := "ytgnmdhkkbkoghaa", sum := "6628aa2afb78aae9038da01e047642884bf731e3879e84a4722d5d4eebac2bdf", func := "loop.example/g00468/laws.FnExactProject", spec := "fnExactProject", apart := false, narrowed := true }
def FnExactProjectUptoSaid : Prop := fnExactProjectUptoRow.holds Try.pinned (OpenSpec.upto fnExactProjectSpec)

/-- 'laws.FnExactTupleBytes', WHERE WHAT IT READS IS OF BULK AT MOST 1048576: true; the input reads as it did. -/
def fnExactTupleBytesUptoRow : OpenClaim := { program := "ytgnmdhkkbkoghaa", sum := "6628aa2afb78aae9038da01e047642884bf731e3879e84a4722d5d4eebac2bdf", func := "loop.example/g00468/laws.FnExactTupleBytes", spec := "fnExactTupleBytes", unfollowed := true, recurses := true, apart := false, narrowed := true }
def FnExactTupleBytesUptoSaid : Prop := fnExactTupleBytesUptoRow.holds Try.pinned (OpenSpec.upto fnExactTupleBytesSpec)

/-- 'laws.FnExactTupleText', WHERE WHAT IT READS IS OF BULK AT MOST 1048576: true; the input reads as it did. -/
def fnExactTupleTextUptoRow : OpenClaim := { program := "ytgnmdhkkbkoghaa", sum := "6628aa2afb78aae9038da01e047642884bf731e3879e84a4722d5d4eebac2bdf", func := "loop.example/g00468/laws.FnExactTupleText", spec := "fnExactTupleText", inPlace := ["internal/abi.NoEscape", "internal/bytealg.MakeNoZero"], recurses := true, apart := false, narrowed := true }
def FnExactTupleTextUptoSaid : Prop := fnExactTupleTextUptoRow.holds Try.pinned (OpenSpec.upto fnExactTupleTextSpec)

/-- 'laws.FnExactTupleOf', WHERE WHAT IT READS IS OF BULK AT MOST 1048576: true; the input reads as it did. -/
def fnExactTupleOfUptoRow : OpenClaim := { program := "ytgnmdhkkbkoghaa", sum := "6628aa2afb78aae9038da01e047642884bf731e3879e84a4722d5d4eebac2bdf", func := "loop.example/g00468/laws.FnExactTupleOf", spec := "fnExactTupleOf", unfollowed := true, recurses := true, apart := false, narrowed := true }
def FnExactTupleOfUptoSaid : Prop := fnExactTupleOfUptoRow.holds Try.pinned (OpenSpec.upto fnExactTupleOfSpec)

end Rows
end Go.Proofs.Ytgnmdhkkbkoghaa
