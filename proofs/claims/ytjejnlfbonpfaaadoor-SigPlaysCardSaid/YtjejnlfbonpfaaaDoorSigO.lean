/-
What came in, as deeds and places; the table that the row lists.
-/
import Derived.Test.YtjejnlfbonpfaaaDoorRows
import Derived.Test.YtjejnlfbonpfaaaDoorSig8
import Derived.Test.YtjejnlfbonpfaaaDoorOpen
import Derived.Lib.LaidTab
import Derived.KernelRfl
namespace Go.Proofs.YtjejnlfbonpfaaaDoor
set_option linter.unusedVariables false
set_option linter.unusedSimpArgs false
open Eng
theorem u32_nonneg {i : Int} (h : (Lit.int .u32 i).wf = true) : 0 ≤ i := by
  simp only [Lit.wf, Bool.and_eq_true, decide_eq_true_eq] at h
  exact h.1
abbrev cxSh : Sh := .parts [(16, .rows 16 1 (.int .u32)), (1, .int .u32)]
theorem cx_open {W : World} {r : List Value} (h : Is W cxSh r) : ∃ c : Cx, r = c.cs := by
  obtain ⟨hl, hp⟩ := h.parts_inv
  have hl' : r.length = 17 := hl
  obtain ⟨f, hf, -⟩ := (hp 0 _ _ rfl rfl : Is W (.rows 16 1 (.int .u32)) ((r.drop 0).take 16)).ints_of
  obtain ⟨p, hp1, -⟩ := (hp 1 _ _ rfl rfl : Is W (.int .u32) ((r.drop 16).take 1)).cell
  refine ⟨⟨f, p⟩, ?_⟩
  show r = arr 16 (fun i => .int .u32 (f i)) ++ [.int .u32 p]
  unfold arr
  rw [← hf, ← hp1, List.drop_zero]
  have h1 : (r.drop 16).take 1 = r.drop 16 := List.take_of_length_le (by simp [hl'])
  rw [h1, List.take_append_drop]
theorem de_open {W : World} {r : List Value} (h : Is W (.parts [(1, .int .i64), (1, .int .i64), (1, .int .u32), (17, cxSh)]) r) : ∃ d : De, r = d.cs ∧ 0 ≤ d.a := by
  obtain ⟨hl, hp⟩ := h.parts_inv
  have hl' : r.length = 20 := hl
  obtain ⟨k, hk, -⟩ := (hp 0 _ _ rfl rfl : Is W (.int .i64) ((r.drop 0).take 1)).cell
  obtain ⟨s, hs, -⟩ := (hp 1 _ _ rfl rfl : Is W (.int .i64) ((r.drop 1).take 1)).cell
  obtain ⟨a, ha, hw⟩ := (hp 2 _ _ rfl rfl : Is W (.int .u32) ((r.drop 2).take 1)).cell
  obtain ⟨c, hc⟩ := cx_open (hp 3 _ _ rfl rfl : Is W cxSh ((r.drop 3).take 17))
  refine ⟨⟨k, s, a, c⟩, ?_, u32_nonneg hw⟩
  show r = .int .i64 k :: .int .i64 s :: .int .u32 a :: c.cs
  match r, hl' with
  | x :: y :: z :: t, hl' =>
    simp at hk hs ha hc hl'
    rw [List.take_of_length_le (by omega)] at hc
    rw [hk, hs, ha, hc]
theorem of_laid {W : World} (h : laidMet Tryd.prog Rows.sigKillRow.laid W) : Rd W (some ⟨0, 0, none⟩) deB := by
  have hT := Lib.tabIs_of_head (P := Tryd.prog) (t := 64) (name := "math/bits.deBruijn32tab") (k := .u8) (zs := deT) (g := 0) (by kernel_rfl) (by kernel_rfl) (by kernel_rfl : Tryd.prog.underlying _ = some (.array 32 5)) (by kernel_rfl) (by kernel_rfl) (by kernel_rfl) h
  intro j u hu
  have hj : j < 32 := by
    have := (List.getElem?_eq_some_iff.1 hu).1
    simpa [deB, deT] using this
  refine ⟨_, rfl, ?_⟩
  have h1 := hT.cell (g := 0) (by kernel_rfl) j hj
  rw [deB_at hj] at hu
  rw [← Option.some.inj hu]
  have e : (⟨0, 0, none⟩ : Addr).add j = ⟨0, j, none⟩ := by rw [add_mk, Nat.zero_add]
  rw [e]
  exact h1
end Go.Proofs.YtjejnlfbonpfaaaDoor
