/-
What came in: bytes, and an inode.
-/
import Derived.Test.YtmfnjmmdchlkiaaIn10
import Derived.Test.YtmfnjmmdchlkiaaInO
namespace Go.Proofs.Ytmfnjmmdchlkiaa
set_option linter.unusedVariables false
set_option linter.unusedSimpArgs false
open Eng
theorem in_open {W : World} {r : List Value} (h : Is W (.parts [(1, .int .i64), (1, .int .i64), (8, .rows 8 1 (.int .i64)), (1, .int .i64)]) r) : ∃ x : In, r = x.cs := by
  obtain ⟨hl, hp⟩ := h.parts_inv
  have hl' : r.length = 11 := hl
  obtain ⟨k, hk, -⟩ := (hp 0 _ _ rfl rfl : Is W (.int .i64) ((r.drop 0).take 1)).cell
  obtain ⟨s, hs, -⟩ := (hp 1 _ _ rfl rfl : Is W (.int .i64) ((r.drop 1).take 1)).cell
  obtain ⟨f, hf, -⟩ := (hp 2 _ _ rfl rfl : Is W (.rows 8 1 (.int .i64)) ((r.drop 2).take 8)).ints_of
  obtain ⟨p, hp1, -⟩ := (hp 3 _ _ rfl rfl : Is W (.int .i64) ((r.drop 10).take 1)).cell
  refine ⟨⟨k, s, f, p⟩, ?_⟩
  show r = .int .i64 k :: .int .i64 s :: (arr 8 (fun i => .int .i64 (f i)) ++ [.int .i64 p])
  unfold arr
  rw [← hf, ← hp1]
  match r, hl' with
  | x :: y :: t, hl' =>
    simp at hk hs hl'
    rw [hk, hs]
    simp only [List.drop_succ_cons, List.drop_zero, List.cons.injEq, true_and]
    rw [List.take_of_length_le (l := List.drop 8 t) (by simp; omega), List.take_append_drop]
end Go.Proofs.Ytmfnjmmdchlkiaa
