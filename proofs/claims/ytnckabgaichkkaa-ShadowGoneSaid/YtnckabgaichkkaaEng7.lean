/-
The engine, more: what a list owned tells; masks.
-/
import Derived.Test.YtnckabgaichkkaaEng6
namespace Go.Proofs.Ytnckabgaichkkaa.Eng
set_option linter.unusedVariables false
set_option linter.unusedSimpArgs false
theorem own_le {A : Option Addr} {c T sz n : Nat} {xs : List Value} {w : World} (h : (own A c T sz n xs).holds w) : n ≤ c := by
  rcases h.2 with ⟨_, rfl, rfl⟩ | ⟨_, _, _, _, _, h, _⟩
  · exact Nat.le_refl _
  · exact h
/-- A list owned has room for what it holds. -/
theorem c_own {l : Fr} {n : Nat} {B : Base} {hp : List Chunk} {G : Act → World → Prop} {A : Option Addr} {c T sz k : Nat} {xs : List Value} (i : Nat) (hi : nth hp i = some (own A c T sz k xs)) (h : k ≤ c → S n l B hp G) : S n l B hp G :=
  fun a w hA hS => h (own_le (hS.at_ i (by rw [← nth_eq]; exact hi))) a w hA hS
/-- .. and, if it holds something, it lies somewhere. -/
theorem c_own2 {l : Fr} {n : Nat} {B : Base} {hp : List Chunk} {G : Act → World → Prop} {A : Option Addr} {c T sz k : Nat} {xs : List Value} (i : Nat) (hi : nth hp i = some (own A c T sz k xs)) (h : k ≤ c → (0 < k → A ≠ none) → S n l B hp G) : S n l B hp G :=
  fun a w hA hS => by
    have ho := hS.at_ i (by rw [← nth_eq]; exact hi)
    refine h (own_le ho) (fun hk => ?_) a w hA hS
    rcases ho.2 with ⟨_, rfl, _⟩ | ⟨_, _, _, rfl, _⟩
    · omega
    · exact fun e => by cases e
theorem andm (i : Int) (m : Nat) (hm : m < 9223372036854775808) : 0 ≤ bitv .and .i64 i m ∧ bitv .and .i64 i m ≤ m := by
  have h : (BitVec.ofInt 64 i &&& BitVec.ofInt 64 m).toNat ≤ m := by
    rw [BitVec.toNat_and]
    refine Nat.le_trans Nat.and_le_right ?_
    have : (BitVec.ofInt 64 (m : Int)).toNat = m := by
      rw [BitVec.toNat_ofInt]
      omega
    omega
  have e : bitv .and .i64 i m = ((BitVec.ofInt 64 i &&& BitVec.ofInt 64 m).toNat : Int) := by
    show IntKind.i64.wrap _ = _
    exact wrap64_id (by omega) (by
      have : ((BitVec.ofInt IntKind.i64.bits i &&& BitVec.ofInt IntKind.i64.bits m).toNat : Int) ≤ m := by exact_mod_cast h
      omega)
  rw [e]
  omega
end Go.Proofs.Ytnckabgaichkkaa.Eng
