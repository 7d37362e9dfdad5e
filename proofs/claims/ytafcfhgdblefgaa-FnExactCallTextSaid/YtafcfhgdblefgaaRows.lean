/-
  No cell of these rows narrows 'for every input' (looked for: loops, veiled, ifaces, maps, wideKeys, modest, calm, conditions, laid).
  DERIVED. THE GIVEN ROWS OF THIS SEAT. 6 by the template 'for every input the law returns true; each argument reads behind the call as it read before'; 0 by the template 'total and deterministic' (their statements: YtafcfhgdblefgaaTotals.lean).
  GIVEN WITH THE SEED: the statements are not yours to turn. If you find one false, say at which input.
  Laid BY PROGRAM, IN A SANDBOX (cutbox-rows.mjs): the forced cells as the released guide's own fill.sh prints them over the translation a5e83b02ae6f07f9… (all of the seat's roots in one cut). By AI agents, Wed Nov 11 2026. No macro, syntax, notation, axiom, sorry.
-/
import Derived.Test.YtafcfhgdblefgaaChecked
import GoSem.Claim
import GoSem.ClaimJoined
import GoSem.ClaimMapViews
import Derived.JoinedTies
import Derived.KernelRfl
namespace Go.Proofs.Ytafcfhgdblefgaa
/- THE CELL 'sum', in the pinned program and in every row, IS THE sha256 OF THE DUMP (.gsa) THAT YtafcfhgdblefgaaProg.lean LOADS. Nothing in Lean hashes anything: it is a label: what it is worth is what the hold of that sum in a sandbox is worth. -/
noncomputable def Try.pinned : Pinned := { name := "ytafcfhgdblefgaa", sum := "a5e83b02ae6f07f9f46febd32b2a9f97775276fa9fb08556543315a1fb60161c", checked := Try.checked }
namespace Rows
def none {H : Type} : Left H := { results := [], args := [] }

/-- 'laws.FnExactWordText': WHATEVER THE INPUT: true; the input reads as it did. -/
def fnExactWordTextSpec : ChangeSpec := { name := "fnExactWordText", fn := fun _ => fun
  | [d] => { results := [.lit (.bool true)], args := [d] }
  | _ => none }
def fnExactWordTextRow : OpenClaim := { program := "ytafcfhgdblefgaa", sum := "a5e83b02ae6f07f9f46febd32b2a9f97775276fa9fb08556543315a1fb60161c", func := "loop.example/g00468/laws.FnExactWordText", spec := "fnExactWordText", recurses := true, apart := false }
def FnExactWordTextSaid : Prop := fnExactWordTextRow.holds Try.pinned (OpenSpec.ofChange fnExactWordTextSpec)

/-- ITS FALSE NEIGHBOUR: 'it returns false'. Refute it at one input. -/
def fnExactWordTextWrong : ChangeSpec := { name := "fnExactWordText", fn := fun _ => fun
  | [d] => { results := [.lit (.bool false)], args := [d] }
  | _ => none }
def FnExactWordTextWrongFalsely : Prop := fnExactWordTextRow.holds Try.pinned (OpenSpec.ofChange fnExactWordTextWrong)

/-- 'laws.FnExactRowsText': WHATEVER THE INPUT: true; the input reads as it did. -/
def fnExactRowsTextSpec : ChangeSpec := { name := "fnExactRowsText", fn := fun _ => fun
  | [d] => { results := [.lit (.bool true)], args := [d] }
  | _ => none }
def fnExactRowsTextRow : OpenClaim := { program := "ytafcfhgdblefgaa", sum := "a5e83b02ae6f07f9f46febd32b2a9f97775276fa9fb08556543315a1fb60161c", func := "loop.example/g00468/laws.FnExactRowsText", spec := "fnExactRowsText", inPlace := ["internal/abi.NoEscape", "internal/bytealg.MakeNoZero"], recurses := true, apart := false }
def FnExactRowsTextSaid : Prop := fnExactRowsTextRow.holds Try.pinned (OpenSpec.ofChange fnExactRowsTextSpec)

/-- ITS FALSE NEIGHBOUR: 'it returns false'. Refute it at one input. -/
def fnExactRowsTextWrong : ChangeSpec := { name := "fnExactRowsText", fn := fun _ => fun
  | [d] => { results := [.lit (.bool false)], args := [d] }
  | _ => none }
def FnExactRowsTextWrongFalsely : Prop := fnExactRowsTextRow.holds Try.pinned (OpenSpec.ofChange fnExactRowsTextWrong)

/-- 'laws.FnExactResText': WHATEVER THE INPUT: true; the input reads as it did. -/
def fnExactResTextSpec : ChangeSpec := { name := "fnExactResText", fn := fun _ => fun
  | [d] => { results := [.lit (.bool true)], args := [d] }
  | _ => none }
def fnExactResTextRow : OpenClaim := { program := "ytafcfhgdblefgaa", sum := "a5e83b02ae6f07f9f46febd32b2a9f97775276fa9fb08556543315a1fb60161c", func := "loop.example/g00468/laws.FnExactResText", spec := "fnExactResText", inPlace := ["internal/abi.NoEscape", "internal/bytealg.MakeNoZero"], recurses := true, apart := false }
def FnExactResTextSaid : Prop := fnExactResTextRow.holds Try.pinned (OpenSpec.ofChange fnExactResTextSpec)

/-- ITS FALSE NEIGHBOUR: 'it returns false'. Refute it at one input. -/
def fnExactResTextWrong : ChangeSpec := { name := "fnExactResText", fn := fun _ => fun
  | [d] => { results := [.lit (.bool false)], args := [d] }
  | _ => none }
def FnExactResTextWrongFalsely : Prop := fnExactResTextRow.holds Try.pinned (OpenSpec.ofChange fnExactResTextWrong)

/-- 'laws.FnExactOpText': WHATEVER THE INPUT: true; the input reads as it did. -/
def fnExactOpTextSpec : ChangeSpec := { name := "fnExactOpText", fn := fun _ => fun
  | [d] => { results := [.lit (.bool true)], args := [d] }
  | _ => none }
def fnExactOpTextRow : OpenClaim := { program := "ytafcfhgdblefgaa", sum := "a5e83b02ae6f07f9f46febd32b2a9f97775276fa9fb08556543315a1fb60161c", func := "loop.example/g00468/laws.FnExactOpText", spec := "fnExactOpText", recurses := true, apart := false }
def FnExactOpTextSaid : Prop := fnExactOpTextRow.holds Try.pinned (OpenSpec.ofChange fnExactOpTextSpec)

/-- ITS FALSE NEIGHBOUR: 'it returns false'. Refute it at one input. -/
def fnExactOpTextWrong : ChangeSpec := { name := "fnExactOpText", fn := fun _ => fun
  | [d] => { results := [.lit (.bool false)], args := [d] }
  | _ => none }
def FnExactOpTextWrongFalsely : Prop := fnExactOpTextRow.holds Try.pinned (OpenSpec.ofChange fnExactOpTextWrong)

/-- 'laws.FnExactProgText': WHATEVER THE INPUT: true; the input reads as it did. -/
def fnExactProgTextSpec : ChangeSpec := { name := "fnExactProgText", fn := fun _ => fun
  | [d] => { results := [.lit (.bool true)], args := [d] }
  | _ => none }
def fnExactProgTextRow : OpenClaim := { program := "ytafcfhgdblefgaa", sum := "a5e83b02ae6f07f9f46febd32b2a9f97775276fa9fb08556543315a1fb60161c", func := "loop.example/g00468/laws.FnExactProgText", spec := "fnExactProgText", inPlace := ["internal/abi.NoEscape", "internal/bytealg.MakeNoZero"], recurses := true, apart := false }
def FnExactProgTextSaid : Prop := fnExactProgTextRow.holds Try.pinned (OpenSpec.ofChange fnExactProgTextSpec)

/-- ITS FALSE NEIGHBOUR: 'it returns false'. Refute it at one input. -/
def fnExactProgTextWrong : ChangeSpec := { name := "fnExactProgText", fn := fun _ => fun
  | [d] => { results := [.lit (.bool false)], args := [d] }
  | _ => none }
def FnExactProgTextWrongFalsely : Prop := fnExactProgTextRow.holds Try.pinned (OpenSpec.ofChange fnExactProgTextWrong)

/-- 'laws.FnExactCallText': WHATEVER THE INPUT: true; the input reads as it did. -/
def fnExactCallTextSpec : ChangeSpec := { name := "fnExactCallText", fn := fun _ => fun
  | [d] => { results := [.lit (.bool true)], args := [d] }
  | _ => none }
def fnExactCallTextRow : OpenClaim := { program := "ytafcfhgdblefgaa", sum := "a5e83b02ae6f07f9f46febd32b2a9f97775276fa9fb08556543315a1fb60161c", func := "loop.example/g00468/laws.FnExactCallText", spec := "fnExactCallText", inPlace := ["internal/abi.NoEscape", "internal/bytealg.MakeNoZero"], recurses := true, apart := false }
def FnExactCallTextSaid : Prop := fnExactCallTextRow.holds Try.pinned (OpenSpec.ofChange fnExactCallTextSpec)

/-- ITS FALSE NEIGHBOUR: 'it returns false'. Refute it at one input. -/
def fnExactCallTextWrong : ChangeSpec := { name := "fnExactCallText", fn := fun _ => fun
  | [d] => { results := [.lit (.bool false)], args := [d] }
  | _ => none }
def FnExactCallTextWrongFalsely : Prop := fnExactCallTextRow.holds Try.pinned (OpenSpec.ofChange fnExactCallTextWrong)

/- THE SECOND FORM. 'bulk': how many values and letters a reading holds, each counted each time it is reached (what is shared counts as often as it is met; a slice's spare places count too). A statement '..UptoSaid' is the law's where the arguments, and the package variables that the reading takes, are together of bulk at most 1048576: NARROWER than '..Said'. Prove '..Said' where nothing that the law and all that it calls make is longer than what came in: it says more and counts as full. Else prove '..UptoSaid'. A law counts once. -/
mutual
def uptoBulk {H : Type} : DataW H → Nat
  | .lit (.string bytes) => bytes.length + 1
  | .lit _ => 1
  | .nil => 1
  | .ptr d => uptoBulk d + 1
  | .slice elems spare => uptoBulkAll elems + uptoBulkAll spare + 1
  | .agg parts => uptoBulkAll parts + 1
  | .iface _ d => uptoBulk d + 1
  | .map entries => uptoBulkEntries entries + 1
  | .held _ => 1
def uptoBulkAll {H : Type} : List (DataW H) → Nat
  | [] => 0
  | d :: r => uptoBulk d + uptoBulkAll r
def uptoBulkEntries {H : Type} : List (Lit × DataW H) → Nat
  | [] => 0
  | x :: r => uptoBulkEntry x + uptoBulkEntries r
def uptoBulkEntry {H : Type} : Lit × DataW H → Nat
  | (.string bytes, d) => bytes.length + uptoBulk d + 1
  | (_, d) => uptoBulk d + 1
 end
def uptoSmall : (H : Type) → List (DataW H) → Bool := fun _ ds => decide (uptoBulkAll ds ≤ 1048576)
def OpenSpec.upto (s : _root_.Go.ChangeSpec) : _root_.Go.OpenSpec := { _root_.Go.OpenSpec.ofChange s with cond := some uptoSmall }

/-- 'laws.FnExactWordText', WHERE WHAT IT READS IS OF BULK AT MOST 1048576: true; the input reads as it did. -/
def fnExactWordTextUptoRow : OpenClaim := { program := "ytafcfhgdblefgaa", sum := "a5e83b02ae6f07f9f46febd32b2a9f97775276fa9fb08556543315a1fb60161c", func := "loop.example/g00468/laws.FnExactWordText", spec := "fnExactWordText", recurses := true, apart := false, narrowed := true }
def FnExactWordTextUptoSaid : Prop := fnExactWordTextUptoRow.holds Try.pinned (OpenSpec.upto fnExactWordTextSpec)

/-- 'laws.FnExactRowsText', WHERE WHAT IT READS IS OF BULK AT MOST 1048576: true; the input reads as it did. -/
def fnExactRowsTextUptoRow : OpenClaim := { program := "ytafcfhgdblefgaa", sum := "a5e83b02ae6f07f9f46febd32b2a9f97775276fa9fb08556543315a1fb60161c", func := "loop.example/g00468/laws.FnExactRowsText", spec := "fnExactRowsText", inPlace := ["internal/abi.NoEscape", "internal/bytealg.MakeNoZero"], recurses := true, apart := false, narrowed := true }
def FnExactRowsTextUptoSaid : Prop := fnExactRowsTextUptoRow.holds Try.pinned (OpenSpec.upto fnExactRowsTextSpec)

/-- 'laws.FnExactResText', WHERE WHAT IT READS IS OF BULK AT MOST 1048576: true; the input reads as it did. -/
def fnExactResTextUptoRow : OpenClaim := { program := "ytafcfhgdblefgaa", sum := "a5e83b02ae6f07f9f46febd32b2a9f97775276fa9fb08556543315a1fb60161c", func := "loop.example/g00468/laws.FnExactResText", spec := "fnExactResText", inPlace := ["internal/abi.NoEscape", "internal/bytealg.MakeNoZero"], recurses := true, apart := false, narrowed := true }
def FnExactResTextUptoSaid : Prop := fnExactResTextUptoRow.holds Try.pinned (OpenSpec.upto fnExactResTextSpec)

/-- 'laws.FnExactOpText', WHERE WHAT IT READS IS OF BULK AT MOST 1048576: true; the input reads as it did. -/
def fnExactOpTextUptoRow : OpenClaim := { program := "ytafcfhgdblefgaa", sum := "a5e83b02ae6f07f9f46febd32b2a9f97775276fa9fb08556543315a1fb60161c", func := "loop.example/g00468/laws.FnExactOpText", spec := "fnExactOpText", recurses := true, apart := false, narrowed := true }
def FnExactOpTextUptoSaid : Prop := fnExactOpTextUptoRow.holds Try.pinned (OpenSpec.upto fnExactOpTextSpec)

/-- 'laws.FnExactProgText', WHERE WHAT IT READS IS OF BULK AT MOST 1048576: true; the input reads as it did. -/
def fnExactProgTextUptoRow : OpenClaim := { program := "ytafcfhgdblefgaa", sum := "a5e83b02ae6f07f9f46febd32b2a9f97775276fa9fb08556543315a1fb60161c", func := "loop.example/g00468/laws.FnExactProgText", spec := "fnExactProgText", inPlace := ["internal/abi.NoEscape", "internal/bytealg.MakeNoZero"], recurses := true, apart := false, narrowed := true }
def FnExactProgTextUptoSaid : Prop := fnExactProgTextUptoRow.holds Try.pinned (OpenSpec.upto fnExactProgTextSpec)

/-- 'laws.FnExactCallText', WHERE WHAT IT READS IS OF BULK AT MOST 1048576: true; the input reads as it did. -/
def fnExactCallTextUptoRow : OpenClaim := { program := "ytafcfhgdblefgaa", sum := "a5e83b02ae6f07f9f46febd32b2a9f97775276fa9fb08556543315a1fb60161c", func := "loop.example/g00468/laws.FnExactCallText", spec := "fnExactCallText", inPlace := ["internal/abi.NoEscape", "internal/bytealg.MakeNoZero"], recurses := true, apart := false, narrowed := true }
def FnExactCallTextUptoSaid : Prop := fnExactCallTextUptoRow.holds Try.pinned (OpenSpec.upto fnExactCallTextSpec)

end Rows
end Go.Proofs.Ytafcfhgdblefgaa
