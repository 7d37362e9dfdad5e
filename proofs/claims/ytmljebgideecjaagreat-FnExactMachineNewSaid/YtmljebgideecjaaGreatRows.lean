/-
  No cell of these rows narrows 'for every input' (looked for: loops, veiled, ifaces, maps, wideKeys, modest, calm, conditions, laid).
  DERIVED. THE GIVEN ROWS OF THIS SEAT. 7 by the template 'for every input the law returns true; each argument reads behind the call as it read before'; 0 by the template 'total and deterministic' (their statements: YtmljebgideecjaaGreatTotals.lean).
  GIVEN WITH THE SEED: the statements are not yours to turn. If you find one false, say at which input.
  Laid BY PROGRAM, IN A SANDBOX (cutbox-rows.mjs): the forced cells as the released guide's own fill.sh prints them over the translation 9d0d882231410e1e… (all of the seat's roots in one cut). By AI agents, Wed Nov 11 2026. No macro, syntax, notation, axiom, sorry.
-/
import Derived.Test.YtmljebgideecjaaGreatChecked
import GoSem.Claim
import GoSem.ClaimJoined
import GoSem.ClaimMapViews
import Derived.JoinedTies
import Derived.KernelRfl
namespace Go.Proofs.YtmljebgideecjaaGreat
/- THE CELL 'sum', in the pinned program and in every row, IS THE sha256 OF THE DUMP (.gsa) THAT YtmljebgideecjaaGreatProg.lean LOADS. Nothing in Lean hashes anything: it is a label: what it is worth is what the hold of that sum in a sandbox is worth. -/
noncomputable def Tryz.pinned : Pinned := { name := "ytmljebgideecjaagreat", sum := "9d0d882231410e1ea57a59829e70b55ff864c13b434b3defcfff87bc44aa1be2", checked := Tryz.checked }
namespace Rows
def none {H : Type} : Left H := { results := [], args := [] }

/-- 'laws.FnExactJudgeTimes': WHATEVER THE INPUT: true; the input reads as it did. -/
def fnExactJudgeTimesSpec : ChangeSpec := { name := "fnExactJudgeTimes", fn := fun _ => fun
  | [d] => { results := [.lit (.bool true)], args := [d] }
  | _ => none }
def fnExactJudgeTimesRow : OpenClaim := { program := "ytmljebgideecjaagreat", sum := "9d0d882231410e1ea57a59829e70b55ff864c13b434b3defcfff87bc44aa1be2", func := "loop.example/g00468/laws.FnExactJudgeTimes", spec := "fnExactJudgeTimes", unfollowed := true, recurses := true, apart := false }
def FnExactJudgeTimesSaid : Prop := fnExactJudgeTimesRow.holds Tryz.pinned (OpenSpec.ofChange fnExactJudgeTimesSpec)

/-- ITS FALSE NEIGHBOUR: 'it returns false'. Refute it at one input. -/
def fnExactJudgeTimesWrong : ChangeSpec := { name := "fnExactJudgeTimes", fn := fun _ => fun
  | [d] => { results := [.lit (.bool false)], args := [d] }
  | _ => none }
def FnExactJudgeTimesWrongFalsely : Prop := fnExactJudgeTimesRow.holds Tryz.pinned (OpenSpec.ofChange fnExactJudgeTimesWrong)

/-- 'laws.FnExactMachineText': WHATEVER THE INPUT: true; the input reads as it did. -/
def fnExactMachineTextSpec : ChangeSpec := { name := "fnExactMachineText", fn := fun _ => fun
  | [d] => { results := [.lit (.bool true)], args := [d] }
  | _ => none }
def fnExactMachineTextRow : OpenClaim := { program := "ytmljebgideecjaagreat", sum := "9d0d882231410e1ea57a59829e70b55ff864c13b434b3defcfff87bc44aa1be2", func := "loop.example/g00468/laws.FnExactMachineText", spec := "fnExactMachineText", inPlace := ["internal/abi.NoEscape", "internal/bytealg.MakeNoZero"], recurses := true, apart := false }
def FnExactMachineTextSaid : Prop := fnExactMachineTextRow.holds Tryz.pinned (OpenSpec.ofChange fnExactMachineTextSpec)

/-- ITS FALSE NEIGHBOUR: 'it returns false'. Refute it at one input. -/
def fnExactMachineTextWrong : ChangeSpec := { name := "fnExactMachineText", fn := fun _ => fun
  | [d] => { results := [.lit (.bool false)], args := [d] }
  | _ => none }
def FnExactMachineTextWrongFalsely : Prop := fnExactMachineTextRow.holds Tryz.pinned (OpenSpec.ofChange fnExactMachineTextWrong)

/-- 'laws.FnExactMachineNew': WHATEVER THE INPUT: true; the input reads as it did. -/
def fnExactMachineNewSpec : ChangeSpec := { name := "fnExactMachineNew", fn := fun _ => fun
  | [d1, d2] => { results := [.lit (.bool true)], args := [d1, d2] }
  | _ => none }
def fnExactMachineNewRow : OpenClaim := { program := "ytmljebgideecjaagreat", sum := "9d0d882231410e1ea57a59829e70b55ff864c13b434b3defcfff87bc44aa1be2", func := "loop.example/g00468/laws.FnExactMachineNew", spec := "fnExactMachineNew", unfollowed := true, recurses := true, apart := false }
def FnExactMachineNewSaid : Prop := fnExactMachineNewRow.holds Tryz.pinned (OpenSpec.ofChange fnExactMachineNewSpec)

/-- ITS FALSE NEIGHBOUR: 'it returns false'. Refute it at one input. -/
def fnExactMachineNewWrong : ChangeSpec := { name := "fnExactMachineNew", fn := fun _ => fun
  | [d1, d2] => { results := [.lit (.bool false)], args := [d1, d2] }
  | _ => none }
def FnExactMachineNewWrongFalsely : Prop := fnExactMachineNewRow.holds Tryz.pinned (OpenSpec.ofChange fnExactMachineNewWrong)

/-- 'laws.FnExactReplay': WHATEVER THE INPUT: true; the input reads as it did. -/
def fnExactReplaySpec : ChangeSpec := { name := "fnExactReplay", fn := fun _ => fun
  | [d] => { results := [.lit (.bool true)], args := [d] }
  | _ => none }
def fnExactReplayRow : OpenClaim := { program := "ytmljebgideecjaagreat", sum := "9d0d882231410e1ea57a59829e70b55ff864c13b434b3defcfff87bc44aa1be2", func := "loop.example/g00468/laws.FnExactReplay", spec := "fnExactReplay", unfollowed := true, recurses := true, apart := false }
def FnExactReplaySaid : Prop := fnExactReplayRow.holds Tryz.pinned (OpenSpec.ofChange fnExactReplaySpec)

/-- ITS FALSE NEIGHBOUR: 'it returns false'. Refute it at one input. -/
def fnExactReplayWrong : ChangeSpec := { name := "fnExactReplay", fn := fun _ => fun
  | [d] => { results := [.lit (.bool false)], args := [d] }
  | _ => none }
def FnExactReplayWrongFalsely : Prop := fnExactReplayRow.holds Tryz.pinned (OpenSpec.ofChange fnExactReplayWrong)

/-- 'laws.FnExactJudgeSo': WHATEVER THE INPUT: true; the input reads as it did. -/
def fnExactJudgeSoSpec : ChangeSpec := { name := "fnExactJudgeSo", fn := fun _ => fun
  | [d] => { results := [.lit (.bool true)], args := [d] }
  | _ => none }
def fnExactJudgeSoRow : OpenClaim := { program := "ytmljebgideecjaagreat", sum := "9d0d882231410e1ea57a59829e70b55ff864c13b434b3defcfff87bc44aa1be2", func := "loop.example/g00468/laws.FnExactJudgeSo", spec := "fnExactJudgeSo", unfollowed := true, recurses := true, apart := false }
def FnExactJudgeSoSaid : Prop := fnExactJudgeSoRow.holds Tryz.pinned (OpenSpec.ofChange fnExactJudgeSoSpec)

/-- ITS FALSE NEIGHBOUR: 'it returns false'. Refute it at one input. -/
def fnExactJudgeSoWrong : ChangeSpec := { name := "fnExactJudgeSo", fn := fun _ => fun
  | [d] => { results := [.lit (.bool false)], args := [d] }
  | _ => none }
def FnExactJudgeSoWrongFalsely : Prop := fnExactJudgeSoRow.holds Tryz.pinned (OpenSpec.ofChange fnExactJudgeSoWrong)

/-- 'laws.FnExactJudgeWords': WHATEVER THE INPUT: true; the input reads as it did. -/
def fnExactJudgeWordsSpec : ChangeSpec := { name := "fnExactJudgeWords", fn := fun _ => fun
  | [d] => { results := [.lit (.bool true)], args := [d] }
  | _ => none }
def fnExactJudgeWordsRow : OpenClaim := { program := "ytmljebgideecjaagreat", sum := "9d0d882231410e1ea57a59829e70b55ff864c13b434b3defcfff87bc44aa1be2", func := "loop.example/g00468/laws.FnExactJudgeWords", spec := "fnExactJudgeWords", unfollowed := true, recurses := true, apart := false }
def FnExactJudgeWordsSaid : Prop := fnExactJudgeWordsRow.holds Tryz.pinned (OpenSpec.ofChange fnExactJudgeWordsSpec)

/-- ITS FALSE NEIGHBOUR: 'it returns false'. Refute it at one input. -/
def fnExactJudgeWordsWrong : ChangeSpec := { name := "fnExactJudgeWords", fn := fun _ => fun
  | [d] => { results := [.lit (.bool false)], args := [d] }
  | _ => none }
def FnExactJudgeWordsWrongFalsely : Prop := fnExactJudgeWordsRow.holds Tryz.pinned (OpenSpec.ofChange fnExactJudgeWordsWrong)

/-- 'laws.FnExactJudgeAll': WHATEVER THE INPUT: true; the input reads as it did. -/
def fnExactJudgeAllSpec : ChangeSpec := { name := "fnExactJudgeAll", fn := fun _ => fun
  | [d] => { results := [.lit (.bool true)], args := [d] }
  | _ => none }
def fnExactJudgeAllRow : OpenClaim := { program := "ytmljebgideecjaagreat", sum := "9d0d882231410e1ea57a59829e70b55ff864c13b434b3defcfff87bc44aa1be2", func := "loop.example/g00468/laws.FnExactJudgeAll", spec := "fnExactJudgeAll", unfollowed := true, recurses := true, apart := false }
def FnExactJudgeAllSaid : Prop := fnExactJudgeAllRow.holds Tryz.pinned (OpenSpec.ofChange fnExactJudgeAllSpec)

/-- ITS FALSE NEIGHBOUR: 'it returns false'. Refute it at one input. -/
def fnExactJudgeAllWrong : ChangeSpec := { name := "fnExactJudgeAll", fn := fun _ => fun
  | [d] => { results := [.lit (.bool false)], args := [d] }
  | _ => none }
def FnExactJudgeAllWrongFalsely : Prop := fnExactJudgeAllRow.holds Tryz.pinned (OpenSpec.ofChange fnExactJudgeAllWrong)

/- THE SECOND FORM. 'bulk': how many values and letters a reading holds, each counted each time it is reached (what is shared counts as often as it is met; a slice's spare places count too). A statement '..UptoSaid' is the law's where the arguments, and the package variables that the reading takes, are together of bulk at most 1048576: NARROWER than '..Said'. Prove '..Said' where nothing that the law and all that it calls make is longer than what came in: it says more and counts as full. Else prove '..UptoSaid'. A law counts once. -/
mutual
def uptoBulk {H : Type} : DataW H → Nat
  | .lit (.string bytes) => bytes.length + 1
  | .lit _ => 1
  | .nil => 1
  | .ptr d => uptoBulk d + 1
  | .slice elems spare => uptoBulkAll elems + uptoBulkAll spare + 1
  | .agg parts => uptoBulkAll parts + 1
  | .iface _ d => uptoBulk d + 1
  | .map entries => uptoBulkEntries entries + 1
  | .held _ => 1
def uptoBulkAll {H : Type} : List (DataW H) → Nat
  | [] => 0
  | d :: r => uptoBulk d + uptoBulkAll r
def uptoBulkEntries {H : Type} : List (Lit × DataW H) → Nat
  | [] => 0
  | x :: r => uptoBulkEntry x + uptoBulkEntries r
def uptoBulkEntry {H : Type} : Lit × DataW H → Nat
  | (.string bytes, d) => bytes.length + uptoBulk d + 1
  | (_, d) => uptoBulk d + 1
 end
def uptoSmall : (H : Type) → List (DataW H) → Bool := fun _ ds => decide (uptoBulkAll ds ≤ 1048576)
def OpenSpec.upto (s : _root_.Go.ChangeSpec) : _root_.Go.OpenSpec := { _root_.Go.OpenSpec.ofChange s with cond := some uptoSmall }

/-- 'laws.FnExactJudgeTimes', WHERE WHAT IT READS IS OF BULK AT MOST 1048576: true; the input reads as it did. -/
def fnExactJudgeTimesUptoRow : OpenClaim := { program := "ytmljebgideecjaagreat", sum := "9d0d882231410e1ea57a59829e70b55ff864c13b434b3defcfff87bc44aa1be2", func := "loop.example/g00468/laws.FnExactJudgeTimes", spec := "fnExactJudgeTimes", unfollowed := true, recurses := true, apart := false, narrowed := true }
def FnExactJudgeTimesUptoSaid : Prop := fnExactJudgeTimesUptoRow.holds Tryz.pinned (OpenSpec.upto fnExactJudgeTimesSpec)

/-- 'laws.FnExactMachineText', WHERE WHAT IT READS IS OF BULK AT MOST 1048576: true; the input reads as it did. -/
def fnExactMachineTextUptoRow : OpenClaim := { program := "ytmljebgideecjaagreat", sum := "9d0d882231410e1ea57a59829e70b55ff864c13b434b3defcfff87bc44aa1be2", func := "loop.example/g00468/laws.FnExactMachineText", spec := "fnExactMachineText", inPlace := ["internal/abi.NoEscape", "internal/bytealg.MakeNoZero"], recurses := true, apart := false, narrowed := true }
def FnExactMachineTextUptoSaid : Prop := fnExactMachineTextUptoRow.holds Tryz.pinned (OpenSpec.upto fnExactMachineTextSpec)

/-- 'laws.FnExactMachineNew', WHERE WHAT IT READS IS OF BULK AT MOST 1048576: true; the input reads as it did. -/
def fnExactMachineNewUptoRow : OpenClaim := { program := "ytmljebgideecjaagreat", sum := "9d0d882231410e1ea57a59829e70b55ff864c13b434b3defcfff87bc44aa1be2", func := "loop.example/g00468/laws.FnExactMachineNew", spec := "fnExactMachineNew", unfollowed := true, recurses := true, apart := false, narrowed := true }
def FnExactMachineNewUptoSaid : Prop := fnExactMachineNewUptoRow.holds Tryz.pinned (OpenSpec.upto fnExactMachineNewSpec)

/-- 'laws.FnExactReplay', WHERE WHAT IT READS IS OF BULK AT MOST 1048576: true; the input reads as it did. -/
def fnExactReplayUptoRow : OpenClaim := { program := "ytmljebgideecjaagreat", sum := "9d0d882231410e1ea57a59829e70b55ff864c13b434b3defcfff87bc44aa1be2", func := "loop.example/g00468/laws.FnExactReplay", spec := "fnExactReplay", unfollowed := true, recurses := true, apart := false, narrowed := true }
def FnExactReplayUptoSaid : Prop := fnExactReplayUptoRow.holds Tryz.pinned (OpenSpec.upto fnExactReplaySpec)

/-- 'laws.FnExactJudgeSo', WHERE WHAT IT READS IS OF BULK AT MOST 1048576: true; the input reads as it did. -/
def fnExactJudgeSoUptoRow : OpenClaim := { program := "ytmljebgideecjaagreat", sum := "9d0d882231410e1ea57a59829e70b55ff864c13b434b3defcfff87bc44aa1be2", func := "loop.example/g00468/laws.FnExactJudgeSo", spec := "fnExactJudgeSo", unfollowed := true, recurses := true, apart := false, narrowed := true }
def FnExactJudgeSoUptoSaid : Prop := fnExactJudgeSoUptoRow.holds Tryz.pinned (OpenSpec.upto fnExactJudgeSoSpec)

/-- 'laws.FnExactJudgeWords', WHERE WHAT IT READS IS OF BULK AT MOST 1048576: true; the input reads as it did. -/
def fnExactJudgeWordsUptoRow : OpenClaim := { program := "ytmljebgideecjaagreat", sum := "9d0d882231410e1ea57a59829e70b55ff864c13b434b3defcfff87bc44aa1be2", func := "loop.example/g00468/laws.FnExactJudgeWords", spec := "fnExactJudgeWords", unfollowed := true, recurses := true, apart := false, narrowed := true }
def FnExactJudgeWordsUptoSaid : Prop := fnExactJudgeWordsUptoRow.holds Tryz.pinned (OpenSpec.upto fnExactJudgeWordsSpec)

/-- 'laws.FnExactJudgeAll', WHERE WHAT IT READS IS OF BULK AT MOST 1048576: true; the input reads as it did. -/
def fnExactJudgeAllUptoRow : OpenClaim := { program := "ytmljebgideecjaagreat", sum := "9d0d882231410e1ea57a59829e70b55ff864c13b434b3defcfff87bc44aa1be2", func := "loop.example/g00468/laws.FnExactJudgeAll", spec := "fnExactJudgeAll", unfollowed := true, recurses := true, apart := false, narrowed := true }
def FnExactJudgeAllUptoSaid : Prop := fnExactJudgeAllUptoRow.holds Tryz.pinned (OpenSpec.upto fnExactJudgeAllSpec)

end Rows
end Go.Proofs.YtmljebgideecjaaGreat
