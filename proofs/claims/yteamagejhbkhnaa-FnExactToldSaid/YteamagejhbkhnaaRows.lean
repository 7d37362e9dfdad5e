/-
  No cell of these rows narrows 'for every input' (looked for: loops, veiled, ifaces, maps, wideKeys, modest, calm, conditions, laid).
  DERIVED. THE GIVEN ROWS OF THIS SEAT. 10 by the template 'for every input the law returns true; each argument reads behind the call as it read before'; 0 by the template 'total and deterministic' (their statements: YteamagejhbkhnaaTotals.lean).
  GIVEN WITH THE SEED: the statements are not yours to turn. If you find one false, say at which input.
  Laid BY PROGRAM, IN A SANDBOX (cutbox-rows.mjs): the forced cells as the released guide's own fill.sh prints them over the translation 703632c2b770eafe… (all of the seat's roots in one cut). By AI agents, Wed Nov 11 2026. No macro, syntax, notation, axiom, sorry.
-/
import Derived.Test.YteamagejhbkhnaaChecked
import GoSem.Claim
import GoSem.ClaimJoined
import GoSem.ClaimMapViews
import Derived.JoinedTies
import Derived.KernelRfl
namespace Go.Proofs.Yteamagejhbkhnaa
/- THE CELL 'sum', in the pinned program and in every row, IS THE sha256 OF THE DUMP (.gsa) THAT YteamagejhbkhnaaProg.lean LOADS. Nothing in Lean hashes anything: it is a label: what it is worth is what the hold of that sum in a sandbox is worth. -/
noncomputable def Try.pinned : Pinned := { name := "yteamagejhbkhnaa", sum := "703632c2b770eafe9b59a84a289537774b0ded86a2aae8f1d72b674089cd0b98", checked := Try.checked }
namespace Rows
def none {H : Type} : Left H := { results := [], args := [] }

/-- 'laws.FnExactRowsIn': WHATEVER THE INPUT: true; the input reads as it did. -/
def fnExactRowsInSpec : ChangeSpec := { name := "fnExactRowsIn", fn := fun _ => fun
  | [d] => { results := [.lit (.bool true)], args := [d] }
  | _ => none }
def fnExactRowsInRow : OpenClaim := { program := "yteamagejhbkhnaa", sum := "703632c2b770eafe9b59a84a289537774b0ded86a2aae8f1d72b674089cd0b98", func := "loop.example/g00468/laws.FnExactRowsIn", spec := "fnExactRowsIn", apart := false }
def FnExactRowsInSaid : Prop := fnExactRowsInRow.holds Try.pinned (OpenSpec.ofChange fnExactRowsInSpec)

/-- ITS FALSE NEIGHBOUR: 'it returns false'. Refute it at one input. -/
def fnExactRowsInWrong : ChangeSpec := { name := "fnExactRowsIn", fn := fun _ => fun
  | [d] => { results := [.lit (.bool false)], args := [d] }
  | _ => none }
def FnExactRowsInWrongFalsely : Prop := fnExactRowsInRow.holds Try.pinned (OpenSpec.ofChange fnExactRowsInWrong)

/-- 'laws.FnExactWhole': WHATEVER THE INPUT: true; the input reads as it did. -/
def fnExactWholeSpec : ChangeSpec := { name := "fnExactWhole", fn := fun _ => fun
  | [d] => { results := [.lit (.bool true)], args := [d] }
  | _ => none }
def fnExactWholeRow : OpenClaim := { program := "yteamagejhbkhnaa", sum := "703632c2b770eafe9b59a84a289537774b0ded86a2aae8f1d72b674089cd0b98", func := "loop.example/g00468/laws.FnExactWhole", spec := "fnExactWhole", apart := false }
def FnExactWholeSaid : Prop := fnExactWholeRow.holds Try.pinned (OpenSpec.ofChange fnExactWholeSpec)

/-- ITS FALSE NEIGHBOUR: 'it returns false'. Refute it at one input. -/
def fnExactWholeWrong : ChangeSpec := { name := "fnExactWhole", fn := fun _ => fun
  | [d] => { results := [.lit (.bool false)], args := [d] }
  | _ => none }
def FnExactWholeWrongFalsely : Prop := fnExactWholeRow.holds Try.pinned (OpenSpec.ofChange fnExactWholeWrong)

/-- 'laws.FnExactStray': WHATEVER THE INPUT: true; the input reads as it did. -/
def fnExactStraySpec : ChangeSpec := { name := "fnExactStray", fn := fun _ => fun
  | [d] => { results := [.lit (.bool true)], args := [d] }
  | _ => none }
def fnExactStrayRow : OpenClaim := { program := "yteamagejhbkhnaa", sum := "703632c2b770eafe9b59a84a289537774b0ded86a2aae8f1d72b674089cd0b98", func := "loop.example/g00468/laws.FnExactStray", spec := "fnExactStray", apart := false }
def FnExactStraySaid : Prop := fnExactStrayRow.holds Try.pinned (OpenSpec.ofChange fnExactStraySpec)

/-- ITS FALSE NEIGHBOUR: 'it returns false'. Refute it at one input. -/
def fnExactStrayWrong : ChangeSpec := { name := "fnExactStray", fn := fun _ => fun
  | [d] => { results := [.lit (.bool false)], args := [d] }
  | _ => none }
def FnExactStrayWrongFalsely : Prop := fnExactStrayRow.holds Try.pinned (OpenSpec.ofChange fnExactStrayWrong)

/-- 'laws.FnExactFind': WHATEVER THE INPUT: true; the input reads as it did. -/
def fnExactFindSpec : ChangeSpec := { name := "fnExactFind", fn := fun _ => fun
  | [d1, d2] => { results := [.lit (.bool true)], args := [d1, d2] }
  | _ => none }
def fnExactFindRow : OpenClaim := { program := "yteamagejhbkhnaa", sum := "703632c2b770eafe9b59a84a289537774b0ded86a2aae8f1d72b674089cd0b98", func := "loop.example/g00468/laws.FnExactFind", spec := "fnExactFind", apart := false }
def FnExactFindSaid : Prop := fnExactFindRow.holds Try.pinned (OpenSpec.ofChange fnExactFindSpec)

/-- ITS FALSE NEIGHBOUR: 'it returns false'. Refute it at one input. -/
def fnExactFindWrong : ChangeSpec := { name := "fnExactFind", fn := fun _ => fun
  | [d1, d2] => { results := [.lit (.bool false)], args := [d1, d2] }
  | _ => none }
def FnExactFindWrongFalsely : Prop := fnExactFindRow.holds Try.pinned (OpenSpec.ofChange fnExactFindWrong)

/-- 'laws.FnExactFindVia': WHATEVER THE INPUT: true; the input reads as it did. -/
def fnExactFindViaSpec : ChangeSpec := { name := "fnExactFindVia", fn := fun _ => fun
  | [d1, d2] => { results := [.lit (.bool true)], args := [d1, d2] }
  | _ => none }
def fnExactFindViaRow : OpenClaim := { program := "yteamagejhbkhnaa", sum := "703632c2b770eafe9b59a84a289537774b0ded86a2aae8f1d72b674089cd0b98", func := "loop.example/g00468/laws.FnExactFindVia", spec := "fnExactFindVia", apart := false }
def FnExactFindViaSaid : Prop := fnExactFindViaRow.holds Try.pinned (OpenSpec.ofChange fnExactFindViaSpec)

/-- ITS FALSE NEIGHBOUR: 'it returns false'. Refute it at one input. -/
def fnExactFindViaWrong : ChangeSpec := { name := "fnExactFindVia", fn := fun _ => fun
  | [d1, d2] => { results := [.lit (.bool false)], args := [d1, d2] }
  | _ => none }
def FnExactFindViaWrongFalsely : Prop := fnExactFindViaRow.holds Try.pinned (OpenSpec.ofChange fnExactFindViaWrong)

/-- 'laws.FnRows': WHATEVER THE INPUT: true; the input reads as it did. -/
def fnRowsSpec : ChangeSpec := { name := "fnRows", fn := fun _ => fun
  | [d] => { results := [.lit (.bool true)], args := [d] }
  | _ => none }
def fnRowsRow : OpenClaim := { program := "yteamagejhbkhnaa", sum := "703632c2b770eafe9b59a84a289537774b0ded86a2aae8f1d72b674089cd0b98", func := "loop.example/g00468/laws.FnRows", spec := "fnRows", apart := false }
def FnRowsSaid : Prop := fnRowsRow.holds Try.pinned (OpenSpec.ofChange fnRowsSpec)

/-- ITS FALSE NEIGHBOUR: 'it returns false'. Refute it at one input. -/
def fnRowsWrong : ChangeSpec := { name := "fnRows", fn := fun _ => fun
  | [d] => { results := [.lit (.bool false)], args := [d] }
  | _ => none }
def FnRowsWrongFalsely : Prop := fnRowsRow.holds Try.pinned (OpenSpec.ofChange fnRowsWrong)

/-- 'laws.FnTables': WHATEVER THE INPUT: true; the input reads as it did. -/
def fnTablesSpec : ChangeSpec := { name := "fnTables", fn := fun _ => fun
  | [d] => { results := [.lit (.bool true)], args := [d] }
  | _ => none }
def fnTablesRow : OpenClaim := { program := "yteamagejhbkhnaa", sum := "703632c2b770eafe9b59a84a289537774b0ded86a2aae8f1d72b674089cd0b98", func := "loop.example/g00468/laws.FnTables", spec := "fnTables", apart := false }
def FnTablesSaid : Prop := fnTablesRow.holds Try.pinned (OpenSpec.ofChange fnTablesSpec)

/-- ITS FALSE NEIGHBOUR: 'it returns false'. Refute it at one input. -/
def fnTablesWrong : ChangeSpec := { name := "fnTables", fn := fun _ => fun
  | [d] => { results := [.lit (.bool false)], args := [d] }
  | _ => none }
def FnTablesWrongFalsely : Prop := fnTablesRow.holds Try.pinned (OpenSpec.ofChange fnTablesWrong)

/-- 'laws.FnExactAhead': WHATEVER THE INPUT: true; the input reads as it did. -/
def fnExactAheadSpec : ChangeSpec := { name := "fnExactAhead", fn := fun _ => fun
  | [d1, d2] => { results := [.lit (.bool true)], args := [d1, d2] }
  | _ => none }
def fnExactAheadRow : OpenClaim := { program := "yteamagejhbkhnaa", sum := "703632c2b770eafe9b59a84a289537774b0ded86a2aae8f1d72b674089cd0b98", func := "loop.example/g00468/laws.FnExactAhead", spec := "fnExactAhead", apart := false }
def FnExactAheadSaid : Prop := fnExactAheadRow.holds Try.pinned (OpenSpec.ofChange fnExactAheadSpec)

/-- ITS FALSE NEIGHBOUR: 'it returns false'. Refute it at one input. -/
def fnExactAheadWrong : ChangeSpec := { name := "fnExactAhead", fn := fun _ => fun
  | [d1, d2] => { results := [.lit (.bool false)], args := [d1, d2] }
  | _ => none }
def FnExactAheadWrongFalsely : Prop := fnExactAheadRow.holds Try.pinned (OpenSpec.ofChange fnExactAheadWrong)

/-- 'laws.FnExactLinear': WHATEVER THE INPUT: true; the input reads as it did. -/
def fnExactLinearSpec : ChangeSpec := { name := "fnExactLinear", fn := fun _ => fun
  | [d1, d2] => { results := [.lit (.bool true)], args := [d1, d2] }
  | _ => none }
def fnExactLinearRow : OpenClaim := { program := "yteamagejhbkhnaa", sum := "703632c2b770eafe9b59a84a289537774b0ded86a2aae8f1d72b674089cd0b98", func := "loop.example/g00468/laws.FnExactLinear", spec := "fnExactLinear", unfollowed := true, recurses := true, apart := false }
def FnExactLinearSaid : Prop := fnExactLinearRow.holds Try.pinned (OpenSpec.ofChange fnExactLinearSpec)

/-- ITS FALSE NEIGHBOUR: 'it returns false'. Refute it at one input. -/
def fnExactLinearWrong : ChangeSpec := { name := "fnExactLinear", fn := fun _ => fun
  | [d1, d2] => { results := [.lit (.bool false)], args := [d1, d2] }
  | _ => none }
def FnExactLinearWrongFalsely : Prop := fnExactLinearRow.holds Try.pinned (OpenSpec.ofChange fnExactLinearWrong)

/-- 'laws.FnExactTold': WHATEVER THE INPUT: true; the input reads as it did. -/
def fnExactToldSpec : ChangeSpec := { name := "fnExactTold", fn := fun _ => fun
  | [d] => { results := [.lit (.bool true)], args := [d] }
  | _ => none }
def fnExactToldRow : OpenClaim := { program := "yteamagejhbkhnaa", sum := "703632c2b770eafe9b59a84a289537774b0ded86a2aae8f1d72b674089cd0b98", func := "loop.example/g00468/laws.FnExactTold", spec := "fnExactTold", apart := false }
def FnExactToldSaid : Prop := fnExactToldRow.holds Try.pinned (OpenSpec.ofChange fnExactToldSpec)

/-- ITS FALSE NEIGHBOUR: 'it returns false'. Refute it at one input. -/
def fnExactToldWrong : ChangeSpec := { name := "fnExactTold", fn := fun _ => fun
  | [d] => { results := [.lit (.bool false)], args := [d] }
  | _ => none }
def FnExactToldWrongFalsely : Prop := fnExactToldRow.holds Try.pinned (OpenSpec.ofChange fnExactToldWrong)

/- THE SECOND FORM. 'bulk': how many values and letters a reading holds, each counted each time it is reached (what is shared counts as often as it is met; a slice's spare places count too). A statement '..UptoSaid' is the law's where the arguments, and the package variables that the reading takes, are together of bulk at most 1048576: NARROWER than '..Said'. Prove '..Said' where nothing that the law and all that it calls make is longer than what came in: it says more and counts as full. Else prove '..UptoSaid'. A law counts once. -/
mutual
def uptoBulk {H : Type} : DataW H → Nat
  | .lit (.string bytes) => bytes.length + 1
  | .lit _ => 1
  | .nil => 1
  | .ptr d => uptoBulk d + 1
  | .slice elems spare => uptoBulkAll elems + uptoBulkAll spare + 1
  | .agg parts => uptoBulkAll parts + 1
  | .iface _ d => uptoBulk d + 1
  | .map entries => uptoBulkEntries entries + 1
  | .held _ => 1
def uptoBulkAll {H : Type} : List (DataW H) → Nat
  | [] => 0
  | d :: r => uptoBulk d + uptoBulkAll r
def uptoBulkEntries {H : Type} : List (Lit × DataW H) → Nat
  | [] => 0
  | x :: r => uptoBulkEntry x + uptoBulkEntries r
def uptoBulkEntry {H : Type} : Lit × DataW H → Nat
  | (.string bytes, d) => bytes.length + uptoBulk d + 1
  | (_, d) => uptoBulk d + 1
 end
def uptoSmall : (H : Type) → List (DataW H) → Bool := fun _ ds => decide (uptoBulkAll ds ≤ 1048576)
def OpenSpec.upto (s : _root_.Go.ChangeSpec) : _root_.Go.OpenSpec := { _root_.Go.OpenSpec.ofChange s with cond := some uptoSmall }

/-- 'laws.FnExactRowsIn', WHERE WHAT IT READS IS OF BULK AT MOST 1048576: true; the input reads as it did. -/
def fnExactRowsInUptoRow : OpenClaim := { program := "yteamagejhbkhnaa", sum := "703632c2b770eafe9b59a84a289537774b0ded86a2aae8f1d72b674089cd0b98", func := "loop.example/g00468/laws.FnExactRowsIn", spec := "fnExactRowsIn", apart := false, narrowed := true }
def FnExactRowsInUptoSaid : Prop := fnExactRowsInUptoRow.holds Try.pinned (OpenSpec.upto fnExactRowsInSpec)

/-- 'laws.FnExactWhole', WHERE WHAT IT READS IS OF BULK AT MOST 1048576: true; the input reads as it did. -/
def fnExactWholeUptoRow : OpenClaim := { program := "yteamagejhbkhnaa", sum := "703632c2b770eafe9b59a84a289537774b0ded86a2aae8f1d72b674089cd0b98", func := "loop.example/g00468/laws.FnExactWhole", spec := "fnExactWhole", apart := false, narrowed := true }
def FnExactWholeUptoSaid : Prop := fnExactWholeUptoRow.holds Try.pinned (OpenSpec.upto fnExactWholeSpec)

/-- 'laws.FnExactStray', WHERE WHAT IT READS IS OF BULK AT MOST 1048576: true; the input reads as it did. -/
def fnExactStrayUptoRow : OpenClaim := { program := "yteamagejhbkhnaa", sum := "703632c2b770eafe9b59a84a289537774b0ded86a2aae8f1d72b674089cd0b98", func := "loop.example/g00468/laws.FnExactStray", spec := "fnExactStray", apart := false, narrowed := true }
def FnExactStrayUptoSaid : Prop := fnExactStrayUptoRow.holds Try.pinned (OpenSpec.upto fnExactStraySpec)

/-- 'laws.FnExactFind', WHERE WHAT IT READS IS OF BULK AT MOST 1048576: true; the input reads as it did. -/
def fnExactFindUptoRow : OpenClaim := { program := "yteamagejhbkhnaa", sum := "703632c2b770eafe9b59a84a289537774b0ded86a2aae8f1d72b674089cd0b98", func := "loop.example/g00468/laws.FnExactFind", spec := "fnExactFind", apart := false, narrowed := true }
def FnExactFindUptoSaid : Prop := fnExactFindUptoRow.holds Try.pinned (OpenSpec.upto fnExactFindSpec)

/-- 'laws.FnExactFindVia', WHERE WHAT IT READS IS OF BULK AT MOST 1048576: true; the input reads as it did. -/
def fnExactFindViaUptoRow : OpenClaim := { program := "yteamagejhbkhnaa", sum := "703632c2b770eafe9b59a84a289537774b0ded86a2aae8f1d72b674089cd0b98", func := "loop.example/g00468/laws.FnExactFindVia", spec := "fnExactFindVia", apart := false, narrowed := true }
def FnExactFindViaUptoSaid : Prop := fnExactFindViaUptoRow.holds Try.pinned (OpenSpec.upto fnExactFindViaSpec)

/-- 'laws.FnRows', WHERE WHAT IT READS IS OF BULK AT MOST 1048576: true; the input reads as it did. -/
def fnRowsUptoRow : OpenClaim := { program := "yteamagejhbkhnaa", sum := "703632c2b770eafe9b59a84a289537774b0ded86a2aae8f1d72b674089cd0b98", func := "loop.example/g00468/laws.FnRows", spec := "fnRows", apart := false, narrowed := true }
def FnRowsUptoSaid : Prop := fnRowsUptoRow.holds Try.pinned (OpenSpec.upto fnRowsSpec)

/-- 'laws.FnTables', WHERE WHAT IT READS IS OF BULK AT MOST 1048576: true; the input reads as it did. -/
def fnTablesUptoRow : OpenClaim := { program := "yteamagejhbkhnaa", sum := "703632c2b770eafe9b59a84a289537774b0ded86a2aae8f1d72b674089cd0b98", func := "loop.example/g00468/laws.FnTables", spec := "fnTables", apart := false, narrowed := true }
def FnTablesUptoSaid : Prop := fnTablesUptoRow.holds Try.pinned (OpenSpec.upto fnTablesSpec)

/-- 'laws.FnExactAhead', WHERE WHAT IT READS IS OF BULK AT MOST 1048576: true; the input reads as it did. -/
def fnExactAheadUptoRow : OpenClaim := { program := "yteamagejhbkhnaa", sum := "703632c2b770eafe9b59a84a289537774b0ded86a2aae8f1d72b674089cd0b98", func := "loop.example/g00468/laws.FnExactAhead", spec := "fnExactAhead", apart := false, narrowed := true }
def FnExactAheadUptoSaid : Prop := fnExactAheadUptoRow.holds Try.pinned (OpenSpec.upto fnExactAheadSpec)

/-- 'laws.FnExactLinear', WHERE WHAT IT READS IS OF BULK AT MOST 1048576: true; the input reads as it did. -/
def fnExactLinearUptoRow : OpenClaim := { program := "yteamagejhbkhnaa", sum := "703632c2b770eafe9b59a84a289537774b0ded86a2aae8f1d72b674089cd0b98", func := "loop.example/g00468/laws.FnExactLinear", spec := "fnExactLinear", unfollowed := true, recurses := true, apart := false, narrowed := true }
def FnExactLinearUptoSaid : Prop := fnExactLinearUptoRow.holds Try.pinned (OpenSpec.upto fnExactLinearSpec)

/-- 'laws.FnExactTold', WHERE WHAT IT READS IS OF BULK AT MOST 1048576: true; the input reads as it did. -/
def fnExactToldUptoRow : OpenClaim := { program := "yteamagejhbkhnaa", sum := "703632c2b770eafe9b59a84a289537774b0ded86a2aae8f1d72b674089cd0b98", func := "loop.example/g00468/laws.FnExactTold", spec := "fnExactTold", apart := false, narrowed := true }
def FnExactToldUptoSaid : Prop := fnExactToldUptoRow.holds Try.pinned (OpenSpec.upto fnExactToldSpec)

end Rows
end Go.Proofs.Yteamagejhbkhnaa
