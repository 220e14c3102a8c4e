/-
A deed, opened.
-/
import Derived.Test.YtmfnjmmdchlkiaaFd4
import Derived.Test.YtmfnjmmdchlkiaaOpen
namespace Go.Proofs.Ytmfnjmmdchlkiaa
open Eng
theorem fdd_open {W : World} {r : List Value} (h : Is W (.parts [(1, .int .i64), (1, .int .i64), (1, .int .i64), (1, .int .i64), (3, .struct [.int .i64, .int .i64, .int .i64])]) r) : ∃ k t f n a b c : Int, r = fdd k t f n a b c := by
  obtain ⟨hl, hp⟩ := h.parts_inv
  have hl' : r.length = 7 := hl
  obtain ⟨k, hk, -⟩ := (hp 0 _ _ rfl rfl : Is W (.int .i64) ((r.drop 0).take 1)).cell
  obtain ⟨t, ht, -⟩ := (hp 1 _ _ rfl rfl : Is W (.int .i64) ((r.drop 1).take 1)).cell
  obtain ⟨f, hf, -⟩ := (hp 2 _ _ rfl rfl : Is W (.int .i64) ((r.drop 2).take 1)).cell
  obtain ⟨n, hn, -⟩ := (hp 3 _ _ rfl rfl : Is W (.int .i64) ((r.drop 3).take 1)).cell
  obtain ⟨x, y, z, hx, h0, h1, h2⟩ := (hp 4 _ _ rfl rfl : Is W (.struct [.int .i64, .int .i64, .int .i64]) ((r.drop 4).take 3)).struct3
  obtain ⟨a, rfl, -⟩ := h0.int_inv
  obtain ⟨b, rfl, -⟩ := h1.int_inv
  obtain ⟨c, rfl, -⟩ := h2.int_inv
  refine ⟨k, t, f, n, a, b, c, ?_⟩
  show r = .int .i64 k :: .int .i64 t :: .int .i64 f :: .int .i64 n :: [.int .i64 a, .int .i64 b, .int .i64 c]
  match r, hl' with
  | r0 :: r1 :: r2 :: r3 :: s, hl' =>
    simp at hk ht hf hn hx hl'
    rw [List.take_of_length_le (by omega)] at hx
    rw [hk, ht, hf, hn, hx]
end Go.Proofs.Ytmfnjmmdchlkiaa
