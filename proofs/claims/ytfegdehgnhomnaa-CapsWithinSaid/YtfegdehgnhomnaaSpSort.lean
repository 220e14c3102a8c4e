/-
slices.Sort at a slice of the call's own: the shelf's contract, laid for this program, told in the engine's words.
-/
import Derived.Shelf.Sort.Plain
import Derived.Shelf.Slices.In.SortNone
import Derived.Test.YtfegdehgnhomnaaTab
namespace Go.Proofs.Ytfegdehgnhomnaa
set_option linter.unusedVariables false
set_option linter.unusedSimpArgs false
open Go.Shelf
def lays189_ren : Go.Shelf.Ren := ⟨fun | 189 => 52 | 125 => 55 | 257 => 54 | 128 => 65 | 129 => 66 | 294 => 56 | 295 => 57 | 296 => 58 | 297 => 59 | 298 => 60 | 299 => 61 | 216 => 62 | 300 => 63 | 301 => 64 | 328 => 67 | 329 => 68 | 330 => 69 | 331 => 70 | 332 => 71 | 215 => 72 | 343 => 73 | n => n, fun | 28 => 86 | 3 => 3 | 46 => 103 | 0 => 0 | 51 => 118 | 53 => 24 | 4 => 4 | 183 => 112 | 182 => 111 | 131 => 91 | 5 => 5 | 9 => 9 | 218 => 120 | 222 => 124 | 228 => 126 | 229 => 127 | n => n, fun | n => n⟩
theorem lays189 : Go.Proofs.Lays.n189 Try.prog lays189_ren := {
  mixed := by kernel_rfl
  f125 := Try.func55.trans (congrArg some (by kernel_rfl))
  f128 := Try.func65.trans (congrArg some (by kernel_rfl))
  f129 := Try.func66.trans (congrArg some (by kernel_rfl))
  f189 := Try.func52.trans (congrArg some (by kernel_rfl))
  f215 := Try.func72.trans (congrArg some (by kernel_rfl))
  f216 := Try.func62.trans (congrArg some (by kernel_rfl))
  f257 := Try.func54.trans (congrArg some (by kernel_rfl))
  f294 := Try.func56.trans (congrArg some (by kernel_rfl))
  f295 := Try.func57.trans (congrArg some (by kernel_rfl))
  f296 := Try.func58.trans (congrArg some (by kernel_rfl))
  f297 := Try.func59.trans (congrArg some (by kernel_rfl))
  f298 := Try.func60.trans (congrArg some (by kernel_rfl))
  f299 := Try.func61.trans (congrArg some (by kernel_rfl))
  f300 := Try.func63.trans (congrArg some (by kernel_rfl))
  f301 := Try.func64.trans (congrArg some (by kernel_rfl))
  f328 := Try.func67.trans (congrArg some (by kernel_rfl))
  f329 := Try.func68.trans (congrArg some (by kernel_rfl))
  f330 := Try.func69.trans (congrArg some (by kernel_rfl))
  f331 := Try.func70.trans (congrArg some (by kernel_rfl))
  f332 := Try.func71.trans (congrArg some (by kernel_rfl))
  f343 := Try.func73.trans (congrArg some (by kernel_rfl))
  t0 := Try.underlying0
  a0 := Try.isAgg0
  z0 := Try.sizeOf0
  v0 := Try.zeroValue0
  t3 := Try.underlying3
  a3 := Try.isAgg3
  z3 := Try.sizeOf3
  v3 := Try.zeroValue3
  t4 := Try.underlying4
  a4 := Try.isAgg4
  z4 := Try.sizeOf4
  v4 := Try.zeroValue4
  t5 := Try.underlying5
  a5 := Try.isAgg5
  z5 := Try.sizeOf5
  v5 := Try.zeroValue5
  t9 := Try.underlying9
  a9 := Try.isAgg9
  z9 := Try.sizeOf9
  v9 := Try.zeroValue9
  t28 := Try.underlying86
  a28 := Try.isAgg86
  z28 := Try.sizeOf86
  v28 := Try.zeroValue86
  t46 := Try.underlying103
  a46 := Try.isAgg103
  z46 := Try.sizeOf103
  v46 := Try.zeroValue103
  t51 := Try.underlying118
  a51 := Try.isAgg118
  z51 := Try.sizeOf118
  v51 := Try.zeroValue118
  t53 := Try.underlying24
  a53 := Try.isAgg24
  z53 := Try.sizeOf24
  v53 := Try.zeroValue24
  t131 := Try.underlying91
  a131 := Try.isAgg91
  z131 := Try.sizeOf91
  v131 := Try.zeroValue91
  t182 := Try.underlying111
  a182 := Try.isAgg111
  z182 := Try.sizeOf111
  v182 := Try.zeroValue111
  t183 := Try.underlying112
  a183 := Try.isAgg112
  z183 := Try.sizeOf112
  v183 := Try.zeroValue112
  t218 := Try.underlying120
  a218 := Try.isAgg120
  z218 := Try.sizeOf120
  v218 := Try.zeroValue120
  t222 := Try.underlying124
  a222 := Try.isAgg124
  z222 := Try.sizeOf124
  v222 := Try.zeroValue124
  t228 := Try.underlying126
  a228 := Try.isAgg126
  z228 := Try.sizeOf126
  v228 := Try.zeroValue126
  t229 := Try.underlying127
  a229 := Try.isAgg127
  z229 := Try.sizeOf127
  v229 := Try.zeroValue127 }

open Eng Go.Sort
abbrev srt (L : List Int) : List Int := L.mergeSort fun x y => decide (x ≤ y)
theorem srt_len (L : List Int) : (srt L).length = L.length := List.length_mergeSort L
def ilS (l : List Int) : List Value := l.map (Value.int .i64)
theorem put_get (o : Nat) (d : Array Int) (cur : Array Value) (k : Nat) : (putCells (Value.int .i64) o d cur)[k]? = cur[k]?.map fun x => if o ≤ k ∧ k < o + d.size then Value.int .i64 d[k - o]! else x := by
  simp [putCells]
theorem sort_c (L : List Int) (A : Option Addr) (c : Nat) (hx : L.length ≤ 1000000) : Does Try.prog 52 [.slice A L.length c] [own A c 3 1 L.length (ilS L)] (fun _ : Unit => True) (fun _ => .tuple #[]) (fun _ => [own A c 3 1 L.length (ilS (srt L))]) := by
  intro w hw
  have hown := hw.all _ List.mem_cons_self
  by_cases h0 : L.length = 0
  · have hn : L = [] := List.eq_nil_of_length_eq_zero h0
    subst hn
    refine (Any.slices_Sort_int_none lays189 A c w).mono ?_
    rintro e w' ⟨rfl, rfl⟩
    have e : srt [] = [] := by simp [srt]
    refine ⟨(), trivial, rfl, ?_⟩
    show St _ _ [own A c 3 1 [].length (ilS (srt []))]
    rw [e]
    exact hw.st
  · rcases hown.2 with ⟨_, hn, _⟩ | ⟨g, o, cur, rfl, hg, hnc, hfit, hxs⟩
    · exact absurd hn h0
    · have hgs : g < w.heap.size := (Array.getElem?_eq_some_iff.1 hg).1
      have hget : ∀ j, j < L.length → cur[o + j]? = some (.int .i64 (L.getD j 0)) := fun j hj => by
        have h1 : (ilS L)[j]? = some (.int .i64 (L.getD j 0)) := by simp [ilS, hj]
        have := take_drop_get hxs h1
        simpa using this
      have hH : Holds (Value.int .i64) w g o L.toArray := fun j hj => by
        have hj' : j < L.length := by simpa using hj
        refine ⟨?_, by simp [World.frozen?, hg]⟩
        have : L.toArray[j]! = L.getD j 0 := by simp [hj']
        rw [this, cell_of_row w g _ cur 3 (0, 0) hg]
        exact hget j hj'
      refine (Any.slices_Sort_int lays189 g o c L w hH hgs (by omega)).mono ?_
      rintro e w' ⟨rfl, m, os, rfl⟩
      refine ⟨(), trivial, rfl, ?_⟩
      have hheap : ∀ k, k < w.heap.size → (grow (putRow (Value.int .i64) (Sort.ahead w m) g o (srt L).toArray) os).heap[k]? = (w.heap.modify g (onCells (putCells (Value.int .i64) o (srt L).toArray)))[k]? := fun k hk => by
        rw [heap_grow_old _ _ (by simpa [putRow, mapBlock, Sort.ahead] using hk)]
        rfl
      have hlen : (srt L).toArray.size = L.length := by simp
      refine ⟨rfl, rfl, rfl, ?_, ?_, by simp [Apart], ?_, ?_⟩
      · simp [putRow, mapBlock, Sort.ahead]
      · simp only [List.mem_singleton, forall_eq]
        refine ⟨by simp [ilS], .inr ⟨g, o, putCells (Value.int .i64) o (srt L).toArray cur, rfl, ?_, hnc, by simpa [putCells] using hfit, ?_⟩⟩
        · rw [hheap g hgs]
          simp [Array.getElem?_modify, hg, onCells]
        · apply List.ext_getElem?
          intro j
          rw [List.getElem?_take, List.getElem?_drop, Array.getElem?_toList, put_get]
          by_cases hj : j < L.length
          · rw [if_pos (by omega), hget j hj]
            have hj2 : j < (srt L).length := by rw [srt_len]; exact hj
            simp [ilS, hj, hj2]
          · rw [if_neg (by omega)]
            have : (ilS (srt L)).length ≤ j := by simp [ilS]; omega
            rw [List.getElem?_eq_none this]
      · intro ch hch k hk
        simp at hch
        subst hch
        exact .inl ⟨_, List.mem_singleton.2 rfl, hk⟩
      · intro k hk hno
        show (grow _ _).heap[k]? = w.heap[k]?
        rw [hheap k hk, Array.getElem?_modify]
        have : g ≠ k := fun e => hno _ List.mem_cons_self ⟨_, rfl, e⟩
        rw [if_neg this]
end Go.Proofs.Ytfegdehgnhomnaa
