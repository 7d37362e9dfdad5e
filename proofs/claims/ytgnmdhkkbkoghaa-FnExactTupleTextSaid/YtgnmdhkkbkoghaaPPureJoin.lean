/- Texts joined: plain lemmas. -/
import Derived.Test.YtgnmdhkkbkoghaaPxf64
import Derived.Test.YtgnmdhkkbkoghaaZPure
import Derived.Lib.Join
set_option linter.unusedSimpArgs false
set_option linter.unusedVariables false
namespace Go.Proofs.Ytgnmdhkkbkoghaa.P
open Go.RowKit Go.Proofs.YtgnmdhkkbkoghaaW.PrintWords Go.Proofs.YtgnmdhkkbkoghaaW.PrintLast Go.Proofs.YtgnmdhkkbkoghaaZ
def jn (sep : ByteArray) (l : List ByteArray) : ByteArray := ⟨(Lib.join (l.map (·.data.toList)) sep.data.toList).toArray⟩
theorem jn_nil (sep : ByteArray) : jn sep [] = ⟨#[]⟩ := rfl
theorem ba_ext {a b : ByteArray} (h : a.data.toList = b.data.toList) : a = b := by
  cases a; cases b; congr 1; exact Array.toList_inj.mp h
theorem jn_data (sep : ByteArray) (l : List ByteArray) : (jn sep l).data.toList = Lib.join (l.map (·.data.toList)) sep.data.toList := rfl
theorem app_data (a b : ByteArray) : (a ++ b).data.toList = a.data.toList ++ b.data.toList := by rw [ByteArray.data_append, Array.toList_append]
theorem jn_one (sep x : ByteArray) : jn sep [x] = x := by
  apply ba_ext; rw [jn_data]; simp only [List.map_cons, List.map_nil]; exact Lib.join_one _ _
theorem jn_snoc (sep : ByteArray) (y : ByteArray) (l : List ByteArray) (x : ByteArray) : jn sep ((y :: l) ++ [x]) = jn sep (y :: l) ++ sep ++ x := by
  apply ba_ext
  simp only [app_data, jn_data, List.cons_append, List.map_cons, List.map_append, List.map_nil, Lib.join_cons, Lib.joinTail, List.flatten_append, List.flatten_cons, List.flatten_nil, List.append_nil, List.append_assoc]
theorem jn_snoc' (sep : ByteArray) (l : List ByteArray) (x : ByteArray) (h : l ≠ []) : jn sep (l ++ [x]) = jn sep l ++ sep ++ x := by
  cases l with
  | nil => exact absurd rfl h
  | cons y l => exact jn_snoc sep y l x
theorem jn_cons (sep y x : ByteArray) (l : List ByteArray) : jn sep (y :: x :: l) = y ++ (sep ++ jn sep (x :: l)) := by
  apply ba_ext
  simp only [app_data, jn_data, List.map_cons, Lib.join_cons, Lib.joinTail, List.flatten_cons, List.append_assoc]
theorem jn_size (sep : ByteArray) (M : Nat) : ∀ l : List ByteArray, (∀ x ∈ l, x.size ≤ M) → (jn sep l).size ≤ (M + sep.size) * l.length
  | [], _ => by rw [jn_nil]; exact Nat.zero_le _
  | [x], h => by rw [jn_one]; have := h x (by simp); simp only [List.length_cons, List.length_nil]; omega
  | x :: y :: l, h => by
    rw [jn_cons, ByteArray.size_append, ByteArray.size_append]
    have h1 := h x (by simp)
    have h2 := jn_size sep M (y :: l) (fun z hz => h z (by simp at hz ⊢; right; exact hz))
    have e : (M + sep.size) * (x :: y :: l).length = (M + sep.size) * (y :: l).length + (M + sep.size) := by simp only [List.length_cons, Nat.mul_add, Nat.mul_one]
    rw [e]
    omega
theorem join_ev (sep : ByteArray) (l : List ByteArray) (h1 : (jn sep l).size ≤ 140737488355328) (h2 : l.length ≤ 140737488355328) : strings_Join.f l sep = some (jn sep l) := by
  have h1' : (Lib.join (l.map (·.data.toList)) sep.data.toList).length ≤ 140737488355328 := by rw [← jn_data, Array.length_toList]; exact h1
  simp only [strings_Join.f]
  exact if_pos ⟨h1', h2⟩
theorem take_one {α : Type _} {l : List α} {i : Nat} (h : i < l.length) : l.take (i + 1) = l.take i ++ [l[i]] := (List.take_append_getElem h).symm
end Go.Proofs.Ytgnmdhkkbkoghaa.P
