/-
slices.Sort at a slice of the call's own: the shelf's contract, laid for this program, told in the engine's words.
-/
import Derived.Shelf.Sort.Plain
import Derived.Shelf.Slices.In.SortNone
import Derived.Test.YtnckabgaichkkaaTab
namespace Go.Proofs.Ytnckabgaichkkaa
set_option linter.unusedVariables false
set_option linter.unusedSimpArgs false
open Go.Shelf
def lays189_ren : Go.Shelf.Ren := ⟨fun | 189 => 44 | 125 => 57 | 257 => 56 | 128 => 70 | 129 => 71 | 294 => 61 | 295 => 62 | 296 => 63 | 297 => 64 | 298 => 65 | 299 => 66 | 216 => 67 | 300 => 68 | 301 => 69 | 328 => 89 | 329 => 90 | 330 => 91 | 331 => 92 | 332 => 93 | 215 => 80 | 343 => 100 | n => n, fun | 28 => 41 | 3 => 3 | 46 => 96 | 0 => 0 | 51 => 109 | 53 => 111 | 4 => 4 | 183 => 102 | 182 => 101 | 131 => 106 | 5 => 5 | 9 => 9 | 218 => 123 | 222 => 127 | 228 => 133 | 229 => 134 | n => n, fun | n => n⟩
theorem lays189 : Go.Proofs.Lays.n189 Try.prog lays189_ren := {
  mixed := by kernel_rfl
  f125 := Try.func57.trans (congrArg some (by kernel_rfl))
  f128 := Try.func70.trans (congrArg some (by kernel_rfl))
  f129 := Try.func71.trans (congrArg some (by kernel_rfl))
  f189 := Try.func44.trans (congrArg some (by kernel_rfl))
  f215 := Try.func80.trans (congrArg some (by kernel_rfl))
  f216 := Try.func67.trans (congrArg some (by kernel_rfl))
  f257 := Try.func56.trans (congrArg some (by kernel_rfl))
  f294 := Try.func61.trans (congrArg some (by kernel_rfl))
  f295 := Try.func62.trans (congrArg some (by kernel_rfl))
  f296 := Try.func63.trans (congrArg some (by kernel_rfl))
  f297 := Try.func64.trans (congrArg some (by kernel_rfl))
  f298 := Try.func65.trans (congrArg some (by kernel_rfl))
  f299 := Try.func66.trans (congrArg some (by kernel_rfl))
  f300 := Try.func68.trans (congrArg some (by kernel_rfl))
  f301 := Try.func69.trans (congrArg some (by kernel_rfl))
  f328 := Try.func89.trans (congrArg some (by kernel_rfl))
  f329 := Try.func90.trans (congrArg some (by kernel_rfl))
  f330 := Try.func91.trans (congrArg some (by kernel_rfl))
  f331 := Try.func92.trans (congrArg some (by kernel_rfl))
  f332 := Try.func93.trans (congrArg some (by kernel_rfl))
  f343 := Try.func100.trans (congrArg some (by kernel_rfl))
  t0 := Try.underlying0
  a0 := Try.isAgg0
  z0 := Try.sizeOf0
  v0 := Try.zeroValue0
  t3 := Try.underlying3
  a3 := Try.isAgg3
  z3 := Try.sizeOf3
  v3 := Try.zeroValue3
  t4 := Try.underlying4
  a4 := Try.isAgg4
  z4 := Try.sizeOf4
  v4 := Try.zeroValue4
  t5 := Try.underlying5
  a5 := Try.isAgg5
  z5 := Try.sizeOf5
  v5 := Try.zeroValue5
  t9 := Try.underlying9
  a9 := Try.isAgg9
  z9 := Try.sizeOf9
  v9 := Try.zeroValue9
  t28 := Try.underlying41
  a28 := Try.isAgg41
  z28 := Try.sizeOf41
  v28 := Try.zeroValue41
  t46 := Try.underlying96
  a46 := Try.isAgg96
  z46 := Try.sizeOf96
  v46 := Try.zeroValue96
  t51 := Try.underlying109
  a51 := Try.isAgg109
  z51 := Try.sizeOf109
  v51 := Try.zeroValue109
  t53 := Try.underlying111
  a53 := Try.isAgg111
  z53 := Try.sizeOf111
  v53 := Try.zeroValue111
  t131 := Try.underlying106
  a131 := Try.isAgg106
  z131 := Try.sizeOf106
  v131 := Try.zeroValue106
  t182 := Try.underlying101
  a182 := Try.isAgg101
  z182 := Try.sizeOf101
  v182 := Try.zeroValue101
  t183 := Try.underlying102
  a183 := Try.isAgg102
  z183 := Try.sizeOf102
  v183 := Try.zeroValue102
  t218 := Try.underlying123
  a218 := Try.isAgg123
  z218 := Try.sizeOf123
  v218 := Try.zeroValue123
  t222 := Try.underlying127
  a222 := Try.isAgg127
  z222 := Try.sizeOf127
  v222 := Try.zeroValue127
  t228 := Try.underlying133
  a228 := Try.isAgg133
  z228 := Try.sizeOf133
  v228 := Try.zeroValue133
  t229 := Try.underlying134
  a229 := Try.isAgg134
  z229 := Try.sizeOf134
  v229 := Try.zeroValue134 }

open Eng Go.Sort
abbrev srt (L : List Int) : List Int := L.mergeSort fun x y => decide (x ≤ y)
theorem srt_len (L : List Int) : (srt L).length = L.length := List.length_mergeSort L
def ilS (l : List Int) : List Value := l.map (Value.int .i64)
theorem put_get (o : Nat) (d : Array Int) (cur : Array Value) (k : Nat) : (putCells (Value.int .i64) o d cur)[k]? = cur[k]?.map fun x => if o ≤ k ∧ k < o + d.size then Value.int .i64 d[k - o]! else x := by
  simp [putCells]
theorem sort_c (L : List Int) (A : Option Addr) (c : Nat) (hx : L.length ≤ 1000000) : Does Try.prog 44 [.slice A L.length c] [own A c 3 1 L.length (ilS L)] (fun _ : Unit => True) (fun _ => .tuple #[]) (fun _ => [own A c 3 1 L.length (ilS (srt L))]) := by
  intro w hw
  have hown := hw.all _ List.mem_cons_self
  by_cases h0 : L.length = 0
  · have hn : L = [] := List.eq_nil_of_length_eq_zero h0
    subst hn
    refine (Any.slices_Sort_int_none lays189 A c w).mono ?_
    rintro e w' ⟨rfl, rfl⟩
    have e : srt [] = [] := by simp [srt]
    refine ⟨(), trivial, rfl, ?_⟩
    show St _ _ [own A c 3 1 [].length (ilS (srt []))]
    rw [e]
    exact hw.st
  · rcases hown.2 with ⟨_, hn, _⟩ | ⟨g, o, cur, rfl, hg, hnc, hfit, hxs⟩
    · exact absurd hn h0
    · have hgs : g < w.heap.size := (Array.getElem?_eq_some_iff.1 hg).1
      have hget : ∀ j, j < L.length → cur[o + j]? = some (.int .i64 (L.getD j 0)) := fun j hj => by
        have h1 : (ilS L)[j]? = some (.int .i64 (L.getD j 0)) := by simp [ilS, hj]
        have := take_drop_get hxs h1
        simpa using this
      have hH : Holds (Value.int .i64) w g o L.toArray := fun j hj => by
        have hj' : j < L.length := by simpa using hj
        refine ⟨?_, by simp [World.frozen?, hg]⟩
        have : L.toArray[j]! = L.getD j 0 := by simp [hj']
        rw [this, cell_of_row w g _ cur 3 (0, 0) hg]
        exact hget j hj'
      refine (Any.slices_Sort_int lays189 g o c L w hH hgs (by omega)).mono ?_
      rintro e w' ⟨rfl, m, os, rfl⟩
      refine ⟨(), trivial, rfl, ?_⟩
      have hheap : ∀ k, k < w.heap.size → (grow (putRow (Value.int .i64) (Sort.ahead w m) g o (srt L).toArray) os).heap[k]? = (w.heap.modify g (onCells (putCells (Value.int .i64) o (srt L).toArray)))[k]? := fun k hk => by
        rw [heap_grow_old _ _ (by simpa [putRow, mapBlock, Sort.ahead] using hk)]
        rfl
      have hlen : (srt L).toArray.size = L.length := by simp
      refine ⟨rfl, rfl, rfl, ?_, ?_, by simp [Apart], ?_, ?_, Nat.le_add_right _ _⟩
      · simp [putRow, mapBlock, Sort.ahead]
      · simp only [List.mem_singleton, forall_eq]
        refine ⟨by simp [ilS], .inr ⟨g, o, putCells (Value.int .i64) o (srt L).toArray cur, rfl, ?_, hnc, by simpa [putCells] using hfit, ?_⟩⟩
        · rw [hheap g hgs]
          simp [Array.getElem?_modify, hg, onCells]
        · apply List.ext_getElem?
          intro j
          rw [List.getElem?_take, List.getElem?_drop, Array.getElem?_toList, put_get]
          by_cases hj : j < L.length
          · rw [if_pos (by omega), hget j hj]
            have hj2 : j < (srt L).length := by rw [srt_len]; exact hj
            simp [ilS, hj, hj2]
          · rw [if_neg (by omega)]
            have : (ilS (srt L)).length ≤ j := by simp [ilS]; omega
            rw [List.getElem?_eq_none this]
      · intro ch hch k hk
        simp at hch
        subst hch
        exact .inl ⟨_, List.mem_singleton.2 rfl, hk⟩
      · intro k hk hno
        show (grow _ _).heap[k]? = w.heap[k]?
        rw [hheap k hk, Array.getElem?_modify]
        have : g ≠ k := fun e => hno _ List.mem_cons_self ⟨_, rfl, e⟩
        rw [if_neg this]
end Go.Proofs.Ytnckabgaichkkaa
