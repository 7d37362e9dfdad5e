/- What a value that came in meets, type by type; and that each is opened. Written by a program of this session. -/
import Derived.Test.YtgnmdhkkbkoghaaChecked
import Derived.Test.YtgnmdhkkbkoghaaZOpen
import Derived.Test.YtgnmdhkkbkoghaaPx0
namespace Go.Proofs.Ytgnmdhkkbkoghaa.P
open Go.RowKit Go.Proofs.YtgnmdhkkbkoghaaW.PrintWords Go.Proofs.YtgnmdhkkbkoghaaW.PrintLast Go.Proofs.YtgnmdhkkbkoghaaZ
def wf25 (x : S25) : Prop := (Lit.int .i64 x.f0).wf = true ∧ (Lit.int .i64 x.f1).wf = true ∧ x.f2.size ≤ 9223372036854775807
theorem op25 : Opens Try.prog 25 k25 wf25 := Opens.struct (fun x : S25 => (x.f0, x.f1, x.f2)) (fun a => ⟨a.1, a.2.1, a.2.2⟩) (fun _ => rfl) Try.underlying25 (by kernel_rfl) (OpensF.cons 0 _ rfl rfl (by kernel_rfl) (Opens.int Try.underlying3) (OpensF.cons 1 _ rfl rfl (by kernel_rfl) (Opens.int Try.underlying3) (OpensF.last 2 _ rfl rfl (by kernel_rfl) (Opens.string Try.underlying9))))
end Go.Proofs.Ytgnmdhkkbkoghaa.P
