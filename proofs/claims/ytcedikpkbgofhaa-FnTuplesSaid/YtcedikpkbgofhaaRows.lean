/-
  No cell of these rows narrows 'for every input' (looked for: loops, veiled, ifaces, maps, wideKeys, modest, calm, conditions, laid).
  DERIVED. THE GIVEN ROWS OF THIS SEAT. 6 by the template 'for every input the law returns true; each argument reads behind the call as it read before'; 0 by the template 'total and deterministic' (their statements: YtcedikpkbgofhaaTotals.lean).
  GIVEN WITH THE SEED: the statements are not yours to turn. If you find one false, say at which input.
  Laid BY PROGRAM, IN A SANDBOX (cutbox-rows.mjs): the forced cells as the released guide's own fill.sh prints them over the translation ed3efa90a55c3980… (all of the seat's roots in one cut). By AI agents, Wed Nov 11 2026. No macro, syntax, notation, axiom, sorry.
-/
import Derived.Test.YtcedikpkbgofhaaChecked
import GoSem.Claim
import GoSem.ClaimJoined
import GoSem.ClaimMapViews
import Derived.JoinedTies
import Derived.KernelRfl
namespace Go.Proofs.Ytcedikpkbgofhaa
/- THE CELL 'sum', in the pinned program and in every row, IS THE sha256 OF THE DUMP (.gsa) THAT YtcedikpkbgofhaaProg.lean LOADS. Nothing in Lean hashes anything: it is a label: what it is worth is what the hold of that sum in a sandbox is worth. -/
noncomputable def Try.pinned : Pinned := { name := "ytcedikpkbgofhaa", sum := "ed3efa90a55c3980ca66c19150a5654edcf6dc1f8d2acae81c4339174a27bd56", checked := Try.checked }
namespace Rows
def none {H : Type} : Left H := { results := [], args := [] }

/-- 'laws.FnTupleOrder': WHATEVER THE INPUT: true; the input reads as it did. -/
def fnTupleOrderSpec : ChangeSpec := { name := "fnTupleOrder", fn := fun _ => fun
  | [d] => { results := [.lit (.bool true)], args := [d] }
  | _ => none }
def fnTupleOrderRow : OpenClaim := { program := "ytcedikpkbgofhaa", sum := "ed3efa90a55c3980ca66c19150a5654edcf6dc1f8d2acae81c4339174a27bd56", func := "loop.example/g00468/laws.FnTupleOrder", spec := "fnTupleOrder", inPlace := ["internal/bytealg.abigen_runtime_cmpstring"], unfollowed := true, recurses := true, apart := false }
def FnTupleOrderSaid : Prop := fnTupleOrderRow.holds Try.pinned (OpenSpec.ofChange fnTupleOrderSpec)

/-- ITS FALSE NEIGHBOUR: 'it returns false'. Refute it at one input. -/
def fnTupleOrderWrong : ChangeSpec := { name := "fnTupleOrder", fn := fun _ => fun
  | [d] => { results := [.lit (.bool false)], args := [d] }
  | _ => none }
def FnTupleOrderWrongFalsely : Prop := fnTupleOrderRow.holds Try.pinned (OpenSpec.ofChange fnTupleOrderWrong)

/-- 'laws.FnProjects': WHATEVER THE INPUT: true; the input reads as it did. -/
def fnProjectsSpec : ChangeSpec := { name := "fnProjects", fn := fun _ => fun
  | [d] => { results := [.lit (.bool true)], args := [d] }
  | _ => none }
def fnProjectsRow : OpenClaim := { program := "ytcedikpkbgofhaa", sum := "ed3efa90a55c3980ca66c19150a5654edcf6dc1f8d2acae81c4339174a27bd56", func := "loop.example/g00468/laws.FnProjects", spec := "fnProjects", apart := false }
def FnProjectsSaid : Prop := fnProjectsRow.holds Try.pinned (OpenSpec.ofChange fnProjectsSpec)

/-- ITS FALSE NEIGHBOUR: 'it returns false'. Refute it at one input. -/
def fnProjectsWrong : ChangeSpec := { name := "fnProjects", fn := fun _ => fun
  | [d] => { results := [.lit (.bool false)], args := [d] }
  | _ => none }
def FnProjectsWrongFalsely : Prop := fnProjectsRow.holds Try.pinned (OpenSpec.ofChange fnProjectsWrong)

/-- 'laws.FnTupleParts': WHATEVER THE INPUT: true; the input reads as it did. -/
def fnTuplePartsSpec : ChangeSpec := { name := "fnTupleParts", fn := fun _ => fun
  | [d] => { results := [.lit (.bool true)], args := [d] }
  | _ => none }
def fnTuplePartsRow : OpenClaim := { program := "ytcedikpkbgofhaa", sum := "ed3efa90a55c3980ca66c19150a5654edcf6dc1f8d2acae81c4339174a27bd56", func := "loop.example/g00468/laws.FnTupleParts", spec := "fnTupleParts", inPlace := ["internal/bytealg.abigen_runtime_cmpstring"], unfollowed := true, recurses := true, apart := false }
def FnTuplePartsSaid : Prop := fnTuplePartsRow.holds Try.pinned (OpenSpec.ofChange fnTuplePartsSpec)

/-- ITS FALSE NEIGHBOUR: 'it returns false'. Refute it at one input. -/
def fnTuplePartsWrong : ChangeSpec := { name := "fnTupleParts", fn := fun _ => fun
  | [d] => { results := [.lit (.bool false)], args := [d] }
  | _ => none }
def FnTuplePartsWrongFalsely : Prop := fnTuplePartsRow.holds Try.pinned (OpenSpec.ofChange fnTuplePartsWrong)

/-- 'laws.FnValues': WHATEVER THE INPUT: true; the input reads as it did. -/
def fnValuesSpec : ChangeSpec := { name := "fnValues", fn := fun _ => fun
  | [d] => { results := [.lit (.bool true)], args := [d] }
  | _ => none }
def fnValuesRow : OpenClaim := { program := "ytcedikpkbgofhaa", sum := "ed3efa90a55c3980ca66c19150a5654edcf6dc1f8d2acae81c4339174a27bd56", func := "loop.example/g00468/laws.FnValues", spec := "fnValues", inPlace := ["internal/bytealg.abigen_runtime_cmpstring"], recurses := true, apart := false }
def FnValuesSaid : Prop := fnValuesRow.holds Try.pinned (OpenSpec.ofChange fnValuesSpec)

/-- ITS FALSE NEIGHBOUR: 'it returns false'. Refute it at one input. -/
def fnValuesWrong : ChangeSpec := { name := "fnValues", fn := fun _ => fun
  | [d] => { results := [.lit (.bool false)], args := [d] }
  | _ => none }
def FnValuesWrongFalsely : Prop := fnValuesRow.holds Try.pinned (OpenSpec.ofChange fnValuesWrong)

/-- 'laws.FnExactColAt': WHATEVER THE INPUT: true; the input reads as it did. -/
def fnExactColAtSpec : ChangeSpec := { name := "fnExactColAt", fn := fun _ => fun
  | [d1, d2] => { results := [.lit (.bool true)], args := [d1, d2] }
  | _ => none }
def fnExactColAtRow : OpenClaim := { program := "ytcedikpkbgofhaa", sum := "ed3efa90a55c3980ca66c19150a5654edcf6dc1f8d2acae81c4339174a27bd56", func := "loop.example/g00468/laws.FnExactColAt", spec := "fnExactColAt", unfollowed := true, recurses := true, apart := false }
def FnExactColAtSaid : Prop := fnExactColAtRow.holds Try.pinned (OpenSpec.ofChange fnExactColAtSpec)

/-- ITS FALSE NEIGHBOUR: 'it returns false'. Refute it at one input. -/
def fnExactColAtWrong : ChangeSpec := { name := "fnExactColAt", fn := fun _ => fun
  | [d1, d2] => { results := [.lit (.bool false)], args := [d1, d2] }
  | _ => none }
def FnExactColAtWrongFalsely : Prop := fnExactColAtRow.holds Try.pinned (OpenSpec.ofChange fnExactColAtWrong)

/-- 'laws.FnTuples': WHATEVER THE INPUT: true; the input reads as it did. -/
def fnTuplesSpec : ChangeSpec := { name := "fnTuples", fn := fun _ => fun
  | [d] => { results := [.lit (.bool true)], args := [d] }
  | _ => none }
def fnTuplesRow : OpenClaim := { program := "ytcedikpkbgofhaa", sum := "ed3efa90a55c3980ca66c19150a5654edcf6dc1f8d2acae81c4339174a27bd56", func := "loop.example/g00468/laws.FnTuples", spec := "fnTuples", inPlace := ["internal/abi.NoEscape", "internal/bytealg.MakeNoZero"], unfollowed := true, recurses := true, apart := false }
def FnTuplesSaid : Prop := fnTuplesRow.holds Try.pinned (OpenSpec.ofChange fnTuplesSpec)

/-- ITS FALSE NEIGHBOUR: 'it returns false'. Refute it at one input. -/
def fnTuplesWrong : ChangeSpec := { name := "fnTuples", fn := fun _ => fun
  | [d] => { results := [.lit (.bool false)], args := [d] }
  | _ => none }
def FnTuplesWrongFalsely : Prop := fnTuplesRow.holds Try.pinned (OpenSpec.ofChange fnTuplesWrong)

/- THE SECOND FORM. 'bulk': how many values and letters a reading holds, each counted each time it is reached (what is shared counts as often as it is met; a slice's spare places count too). A statement '..UptoSaid' is the law's where the arguments, and the package variables that the reading takes, are together of bulk at most 1048576: NARROWER than '..Said'. Prove '..Said' where nothing that the law and all that it calls make is longer than what came in: it says more and counts as full. Else prove '..UptoSaid'. A law counts once. -/
mutual
def uptoBulk {H : Type} : DataW H → Nat
  | .lit (.string bytes) => bytes.length + 1
  | .lit _ => 1
  | .nil => 1
  | .ptr d => uptoBulk d + 1
  | .slice elems spare => uptoBulkAll elems + uptoBulkAll spare + 1
  | .agg parts => uptoBulkAll parts + 1
  | .iface _ d => uptoBulk d + 1
  | .map entries => uptoBulkEntries entries + 1
  | .held _ => 1
def uptoBulkAll {H : Type} : List (DataW H) → Nat
  | [] => 0
  | d :: r => uptoBulk d + uptoBulkAll r
def uptoBulkEntries {H : Type} : List (Lit × DataW H) → Nat
  | [] => 0
  | x :: r => uptoBulkEntry x + uptoBulkEntries r
def uptoBulkEntry {H : Type} : Lit × DataW H → Nat
  | (.string bytes, d) => bytes.length + uptoBulk d + 1
  | (_, d) => uptoBulk d + 1
 end
def uptoSmall : (H : Type) → List (DataW H) → Bool := fun _ ds => decide (uptoBulkAll ds ≤ 1048576)
def OpenSpec.upto (s : _root_.Go.ChangeSpec) : _root_.Go.OpenSpec := { _root_.Go.OpenSpec.ofChange s with cond := some uptoSmall }

/-- 'laws.FnTupleOrder', WHERE WHAT IT READS IS OF BULK AT MOST 1048576: true; the input reads as it did. -/
def fnTupleOrderUptoRow : OpenClaim := { program := "ytcedikpkbgofhaa", sum := "ed3efa90a55c3980ca66c19150a5654edcf6dc1f8d2acae81c4339174a27bd56", func := "loop.example/g00468/laws.FnTupleOrder", spec := "fnTupleOrder", inPlace := ["internal/bytealg.abigen_runtime_cmpstring"], unfollowed := true, recurses := true, apart := false, narrowed := true }
def FnTupleOrderUptoSaid : Prop := fnTupleOrderUptoRow.holds Try.pinned (OpenSpec.upto fnTupleOrderSpec)

/-- 'laws.FnProjects', WHERE WHAT IT READS IS OF BULK AT MOST 1048576: true; the input reads as it did. -/
def fnProjectsUptoRow : OpenClaim := { program := "ytcedikpkbgofhaa", sum := "ed3efa90a55c3980ca66c19150a5654edcf6dc1f8d2acae81c4339174a27bd56", func := "loop.example/g00468/laws.FnProjects", spec := "fnProjects", apart := false, narrowed := true }
def FnProjectsUptoSaid : Prop := fnProjectsUptoRow.holds Try.pinned (OpenSpec.upto fnProjectsSpec)

/-- 'laws.FnTupleParts', WHERE WHAT IT READS IS OF BULK AT MOST 1048576: true; the input reads as it did. -/
def fnTuplePartsUptoRow : OpenClaim := { program := "ytcedikpkbgofhaa", sum := "ed3efa90a55c3980ca66c19150a5654edcf6dc1f8d2acae81c4339174a27bd56", func := "loop.example/g00468/laws.FnTupleParts", spec := "fnTupleParts", inPlace := ["internal/bytealg.abigen_runtime_cmpstring"], unfollowed := true, recurses := true, apart := false, narrowed := true }
def FnTuplePartsUptoSaid : Prop := fnTuplePartsUptoRow.holds Try.pinned (OpenSpec.upto fnTuplePartsSpec)

/-- 'laws.FnValues', WHERE WHAT IT READS IS OF BULK AT MOST 1048576: true; the input reads as it did. -/
def fnValuesUptoRow : OpenClaim := { program := "ytcedikpkbgofhaa", sum := "ed3efa90a55c3980ca66c19150a5654edcf6dc1f8d2acae81c4339174a27bd56", func := "loop.example/g00468/laws.FnValues", spec := "fnValues", inPlace := ["internal/bytealg.abigen_runtime_cmpstring"], recurses := true, apart := false, narrowed := true }
def FnValuesUptoSaid : Prop := fnValuesUptoRow.holds Try.pinned (OpenSpec.upto fnValuesSpec)

/-- 'laws.FnExactColAt', WHERE WHAT IT READS IS OF BULK AT MOST 1048576: true; the input reads as it did. -/
def fnExactColAtUptoRow : OpenClaim := { program := "ytcedikpkbgofhaa", sum := "ed3efa90a55c3980ca66c19150a5654edcf6dc1f8d2acae81c4339174a27bd56", func := "loop.example/g00468/laws.FnExactColAt", spec := "fnExactColAt", unfollowed := true, recurses := true, apart := false, narrowed := true }
def FnExactColAtUptoSaid : Prop := fnExactColAtUptoRow.holds Try.pinned (OpenSpec.upto fnExactColAtSpec)

/-- 'laws.FnTuples', WHERE WHAT IT READS IS OF BULK AT MOST 1048576: true; the input reads as it did. -/
def fnTuplesUptoRow : OpenClaim := { program := "ytcedikpkbgofhaa", sum := "ed3efa90a55c3980ca66c19150a5654edcf6dc1f8d2acae81c4339174a27bd56", func := "loop.example/g00468/laws.FnTuples", spec := "fnTuples", inPlace := ["internal/abi.NoEscape", "internal/bytealg.MakeNoZero"], unfollowed := true, recurses := true, apart := false, narrowed := true }
def FnTuplesUptoSaid : Prop := fnTuplesUptoRow.holds Try.pinned (OpenSpec.upto fnTuplesSpec)

end Rows
end Go.Proofs.Ytcedikpkbgofhaa
