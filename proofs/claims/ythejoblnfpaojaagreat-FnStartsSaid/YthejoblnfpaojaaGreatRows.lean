/-
  No cell of these rows narrows 'for every input' (looked for: loops, veiled, ifaces, maps, wideKeys, modest, calm, conditions, laid).
  DERIVED. THE GIVEN ROWS OF THIS SEAT. 5 by the template 'for every input the law returns true; each argument reads behind the call as it read before'; 0 by the template 'total and deterministic' (their statements: YthejoblnfpaojaaGreatTotals.lean).
  GIVEN WITH THE SEED: the statements are not yours to turn. If you find one false, say at which input.
  Laid BY PROGRAM, IN A SANDBOX (cutbox-rows.mjs): the forced cells as the released guide's own fill.sh prints them over the translation 4bb43b98748d6355… (all of the seat's roots in one cut). By AI agents, Wed Nov 11 2026. No macro, syntax, notation, axiom, sorry.
-/
import Derived.Test.YthejoblnfpaojaaGreatChecked
import GoSem.Claim
import GoSem.ClaimJoined
import GoSem.ClaimMapViews
import Derived.JoinedTies
import Derived.KernelRfl
namespace Go.Proofs.YthejoblnfpaojaaGreat
/- THE CELL 'sum', in the pinned program and in every row, IS THE sha256 OF THE DUMP (.gsa) THAT YthejoblnfpaojaaGreatProg.lean LOADS. Nothing in Lean hashes anything: it is a label: what it is worth is what the hold of that sum in a sandbox is worth. -/
noncomputable def Tryz.pinned : Pinned := { name := "ythejoblnfpaojaagreat", sum := "4bb43b98748d6355145dc3024e5bb3fe6c0effda546376f96513bbe98db8bf94", checked := Tryz.checked }
namespace Rows
def none {H : Type} : Left H := { results := [], args := [] }

/-- 'laws.FnStarts': WHATEVER THE INPUT: true; the input reads as it did. -/
def fnStartsSpec : ChangeSpec := { name := "fnStarts", fn := fun _ => fun
  | [d] => { results := [.lit (.bool true)], args := [d] }
  | _ => none }
def fnStartsRow : OpenClaim := { program := "ythejoblnfpaojaagreat", sum := "4bb43b98748d6355145dc3024e5bb3fe6c0effda546376f96513bbe98db8bf94", func := "loop.example/g00468/laws.FnStarts", spec := "fnStarts", unfollowed := true, recurses := true, apart := false }
def FnStartsSaid : Prop := fnStartsRow.holds Tryz.pinned (OpenSpec.ofChange fnStartsSpec)

/-- ITS FALSE NEIGHBOUR: 'it returns false'. Refute it at one input. -/
def fnStartsWrong : ChangeSpec := { name := "fnStarts", fn := fun _ => fun
  | [d] => { results := [.lit (.bool false)], args := [d] }
  | _ => none }
def FnStartsWrongFalsely : Prop := fnStartsRow.holds Tryz.pinned (OpenSpec.ofChange fnStartsWrong)

/-- 'laws.FnMemories': WHATEVER THE INPUT: true; the input reads as it did. -/
def fnMemoriesSpec : ChangeSpec := { name := "fnMemories", fn := fun _ => fun
  | [d] => { results := [.lit (.bool true)], args := [d] }
  | _ => none }
def fnMemoriesRow : OpenClaim := { program := "ythejoblnfpaojaagreat", sum := "4bb43b98748d6355145dc3024e5bb3fe6c0effda546376f96513bbe98db8bf94", func := "loop.example/g00468/laws.FnMemories", spec := "fnMemories", unfollowed := true, recurses := true, apart := false }
def FnMemoriesSaid : Prop := fnMemoriesRow.holds Tryz.pinned (OpenSpec.ofChange fnMemoriesSpec)

/-- ITS FALSE NEIGHBOUR: 'it returns false'. Refute it at one input. -/
def fnMemoriesWrong : ChangeSpec := { name := "fnMemories", fn := fun _ => fun
  | [d] => { results := [.lit (.bool false)], args := [d] }
  | _ => none }
def FnMemoriesWrongFalsely : Prop := fnMemoriesRow.holds Tryz.pinned (OpenSpec.ofChange fnMemoriesWrong)

/-- 'laws.FnShown': WHATEVER THE INPUT: true; the input reads as it did. -/
def fnShownSpec : ChangeSpec := { name := "fnShown", fn := fun _ => fun
  | [d] => { results := [.lit (.bool true)], args := [d] }
  | _ => none }
def fnShownRow : OpenClaim := { program := "ythejoblnfpaojaagreat", sum := "4bb43b98748d6355145dc3024e5bb3fe6c0effda546376f96513bbe98db8bf94", func := "loop.example/g00468/laws.FnShown", spec := "fnShown", inPlace := ["internal/abi.NoEscape", "internal/bytealg.MakeNoZero"], recurses := true, apart := false }
def FnShownSaid : Prop := fnShownRow.holds Tryz.pinned (OpenSpec.ofChange fnShownSpec)

/-- ITS FALSE NEIGHBOUR: 'it returns false'. Refute it at one input. -/
def fnShownWrong : ChangeSpec := { name := "fnShown", fn := fun _ => fun
  | [d] => { results := [.lit (.bool false)], args := [d] }
  | _ => none }
def FnShownWrongFalsely : Prop := fnShownRow.holds Tryz.pinned (OpenSpec.ofChange fnShownWrong)

/-- 'laws.FnSearches': WHATEVER THE INPUT: true; the input reads as it did. -/
def fnSearchesSpec : ChangeSpec := { name := "fnSearches", fn := fun _ => fun
  | [d] => { results := [.lit (.bool true)], args := [d] }
  | _ => none }
def fnSearchesRow : OpenClaim := { program := "ythejoblnfpaojaagreat", sum := "4bb43b98748d6355145dc3024e5bb3fe6c0effda546376f96513bbe98db8bf94", func := "loop.example/g00468/laws.FnSearches", spec := "fnSearches", unfollowed := true, recurses := true, apart := false }
def FnSearchesSaid : Prop := fnSearchesRow.holds Tryz.pinned (OpenSpec.ofChange fnSearchesSpec)

/-- ITS FALSE NEIGHBOUR: 'it returns false'. Refute it at one input. -/
def fnSearchesWrong : ChangeSpec := { name := "fnSearches", fn := fun _ => fun
  | [d] => { results := [.lit (.bool false)], args := [d] }
  | _ => none }
def FnSearchesWrongFalsely : Prop := fnSearchesRow.holds Tryz.pinned (OpenSpec.ofChange fnSearchesWrong)

/-- 'laws.FnJudges': WHATEVER THE INPUT: true; the input reads as it did. -/
def fnJudgesSpec : ChangeSpec := { name := "fnJudges", fn := fun _ => fun
  | [d] => { results := [.lit (.bool true)], args := [d] }
  | _ => none }
def fnJudgesRow : OpenClaim := { program := "ythejoblnfpaojaagreat", sum := "4bb43b98748d6355145dc3024e5bb3fe6c0effda546376f96513bbe98db8bf94", func := "loop.example/g00468/laws.FnJudges", spec := "fnJudges", unfollowed := true, recurses := true, apart := false }
def FnJudgesSaid : Prop := fnJudgesRow.holds Tryz.pinned (OpenSpec.ofChange fnJudgesSpec)

/-- ITS FALSE NEIGHBOUR: 'it returns false'. Refute it at one input. -/
def fnJudgesWrong : ChangeSpec := { name := "fnJudges", fn := fun _ => fun
  | [d] => { results := [.lit (.bool false)], args := [d] }
  | _ => none }
def FnJudgesWrongFalsely : Prop := fnJudgesRow.holds Tryz.pinned (OpenSpec.ofChange fnJudgesWrong)

/- THE SECOND FORM. 'bulk': how many values and letters a reading holds, each counted each time it is reached (what is shared counts as often as it is met; a slice's spare places count too). A statement '..UptoSaid' is the law's where the arguments, and the package variables that the reading takes, are together of bulk at most 1048576: NARROWER than '..Said'. Prove '..Said' where nothing that the law and all that it calls make is longer than what came in: it says more and counts as full. Else prove '..UptoSaid'. A law counts once. -/
mutual
def uptoBulk {H : Type} : DataW H → Nat
  | .lit (.string bytes) => bytes.length + 1
  | .lit _ => 1
  | .nil => 1
  | .ptr d => uptoBulk d + 1
  | .slice elems spare => uptoBulkAll elems + uptoBulkAll spare + 1
  | .agg parts => uptoBulkAll parts + 1
  | .iface _ d => uptoBulk d + 1
  | .map entries => uptoBulkEntries entries + 1
  | .held _ => 1
def uptoBulkAll {H : Type} : List (DataW H) → Nat
  | [] => 0
  | d :: r => uptoBulk d + uptoBulkAll r
def uptoBulkEntries {H : Type} : List (Lit × DataW H) → Nat
  | [] => 0
  | x :: r => uptoBulkEntry x + uptoBulkEntries r
def uptoBulkEntry {H : Type} : Lit × DataW H → Nat
  | (.string bytes, d) => bytes.length + uptoBulk d + 1
  | (_, d) => uptoBulk d + 1
 end
def uptoSmall : (H : Type) → List (DataW H) → Bool := fun _ ds => decide (uptoBulkAll ds ≤ 1048576)
def OpenSpec.upto (s : _root_.Go.ChangeSpec) : _root_.Go.OpenSpec := { _root_.Go.OpenSpec.ofChange s with cond := some uptoSmall }

/-- 'laws.FnStarts', WHERE WHAT IT READS IS OF BULK AT MOST 1048576: true; the input reads as it did. -/
def fnStartsUptoRow : OpenClaim := { program := "ythejoblnfpaojaagreat", sum := "4bb43b98748d6355145dc3024e5bb3fe6c0effda546376f96513bbe98db8bf94", func := "loop.example/g00468/laws.FnStarts", spec := "fnStarts", unfollowed := true, recurses := true, apart := false, narrowed := true }
def FnStartsUptoSaid : Prop := fnStartsUptoRow.holds Tryz.pinned (OpenSpec.upto fnStartsSpec)

/-- 'laws.FnMemories', WHERE WHAT IT READS IS OF BULK AT MOST 1048576: true; the input reads as it did. -/
def fnMemoriesUptoRow : OpenClaim := { program := "ythejoblnfpaojaagreat", sum := "4bb43b98748d6355145dc3024e5bb3fe6c0effda546376f96513bbe98db8bf94", func := "loop.example/g00468/laws.FnMemories", spec := "fnMemories", unfollowed := true, recurses := true, apart := false, narrowed := true }
def FnMemoriesUptoSaid : Prop := fnMemoriesUptoRow.holds Tryz.pinned (OpenSpec.upto fnMemoriesSpec)

/-- 'laws.FnShown', WHERE WHAT IT READS IS OF BULK AT MOST 1048576: true; the input reads as it did. -/
def fnShownUptoRow : OpenClaim := { program := "ythejoblnfpaojaagreat", sum := "4bb43b98748d6355145dc3024e5bb3fe6c0effda546376f96513bbe98db8bf94", func := "loop.example/g00468/laws.FnShown", spec := "fnShown", inPlace := ["internal/abi.NoEscape", "internal/bytealg.MakeNoZero"], recurses := true, apart := false, narrowed := true }
def FnShownUptoSaid : Prop := fnShownUptoRow.holds Tryz.pinned (OpenSpec.upto fnShownSpec)

/-- 'laws.FnSearches', WHERE WHAT IT READS IS OF BULK AT MOST 1048576: true; the input reads as it did. -/
def fnSearchesUptoRow : OpenClaim := { program := "ythejoblnfpaojaagreat", sum := "4bb43b98748d6355145dc3024e5bb3fe6c0effda546376f96513bbe98db8bf94", func := "loop.example/g00468/laws.FnSearches", spec := "fnSearches", unfollowed := true, recurses := true, apart := false, narrowed := true }
def FnSearchesUptoSaid : Prop := fnSearchesUptoRow.holds Tryz.pinned (OpenSpec.upto fnSearchesSpec)

/-- 'laws.FnJudges', WHERE WHAT IT READS IS OF BULK AT MOST 1048576: true; the input reads as it did. -/
def fnJudgesUptoRow : OpenClaim := { program := "ythejoblnfpaojaagreat", sum := "4bb43b98748d6355145dc3024e5bb3fe6c0effda546376f96513bbe98db8bf94", func := "loop.example/g00468/laws.FnJudges", spec := "fnJudges", unfollowed := true, recurses := true, apart := false, narrowed := true }
def FnJudgesUptoSaid : Prop := fnJudgesUptoRow.holds Tryz.pinned (OpenSpec.upto fnJudgesSpec)

end Rows
end Go.Proofs.YthejoblnfpaojaaGreat
