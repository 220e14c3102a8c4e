/-
The engine, another part: slices that are made of a length; elements of them.
-/
import Derived.Test.YtnckabgaichkkaaEngZ
import Derived.Laws.MakeOwn
namespace Go.Proofs.Ytnckabgaichkkaa.Eng
set_option linter.unusedVariables false
set_option linter.unusedSimpArgs false
open Go
section
variable {P : Program} {ops : Array Oper} {md : Mode} {m n : Nat} {l : Fr} {B : Base} {hp hq : List Chunk} {rest : List Oper} {o : Oper} {Q : Exit → Act → World → Prop} {F : Act → World → Prop}
variable {d : Nat} {ty : TypeId} {pos : String} {aft : Array Edge}
/-- A slice of so many zero elements, made. -/
theorem o_makes {t e s b k m kb : Nat} {rk : TKind} {zs : List Value} {kl kc : IntKind} {tab : List TRow} (hme : md.canX = true) (hT : TabOk P tab) {x y : Operand} (hx : ev l x = some (.int kl (k : Nat))) (hy : ev l y = some (.int kc (k : Nat))) (ht : nth tab t = some ⟨.slice e, s, b⟩) (hr : nth tab e = some ⟨rk, m, kb⟩)
    (hz : (P.info? e).map (·.zero) = some (some (.agg zs.toArray))) (hb : (P.info? e).map (fun i => Nat.ble (i.bytes * k) 281474976710656) = some true) (hk : Nat.ble k 1000000 = true) (hd : d < n)
    (kk : ∀ g, Z P ops md n ((d, .slice (some ⟨g, 0, none⟩) k k) :: l) B (cells g e (madeCells zs.toArray (k * m)).toList :: hp) rest) : Z P ops md n l B hp (⟨some d, .makeSlice t x y, ty, pos, aft, none⟩ :: rest) :=
  z_new hme (X := Nat) (v := fun g => .slice (some ⟨g, 0, none⟩) k k) (hq := fun g => cells g e (madeCells zs.toArray (k * m)).toList :: hp) (Mode.fits_of rfl) (fun _ => True) hd (fun a w hA hS => by
    obtain ⟨dd, _, hu, hk', -⟩ := hT t _ ht
    cases dd <;> simp [kindOf] at hk'
    replace hu : P.underlying t = some (.slice e) := by rw [hu, hk']
    clear hk'
    obtain ⟨_, i', _, _, hi, hs, _⟩ := hT _ _ hr
    simp [hi] at hz hb
    have hk2 : k ≤ 1000000 := Nat.le_of_ble_eq_true hk
    have hb2 : (i'.bytes : Int) * (k : Int) ≤ 281474976710656 := by
      have h : ((i'.bytes * k : Nat) : Int) ≤ 281474976710656 := by omega
      rwa [Int.natCast_mul] at h
    have hm := run_make (P := P) w t e i' _ hu hi hz kl kc (k : Int) (k : Int) (by omega) (Int.le_refl _) hb2 (by omega)
    rw [Int.toNat_natCast, show i'.size = m from hs] at hm
    have hal := hS.alloc e (madeCells zs.toArray (k * m)).toList
    rw [Array.toArray_toList] at hal
    refine ⟨w.heap.size, _, trivial, ?_, hal, Ext.alloc _ _⟩
    simp only [execOp, hA.eval hx, hA.eval hy, Sem.run_bind]
    have hm' : (Instr.makeSlice t (Value.int kl (k : Int)) (Value.int kc (k : Int))).run P w = .ok (.slice (some ⟨w.heap.size, 0, none⟩) k k) (w.alloc (.cells (madeCells zs.toArray (k * m)) e)) := hm
    simp only [hm', Result.andThen, Sem.run_pure]) fun g _ => kk g
/-- An element of several cells of a slice that lies at a block's start. -/
theorem o_indexskm {t e s b m kb : Nat} {re : TKind} {tab : List TRow} (hT : TabOk P tab) {len c bl : Nat} {kd : IntKind} {i : Int} {x y : Operand} (hx : ev l x = some (.slice (some ⟨bl, 0, none⟩) len c)) (hy : ev l y = some (.int kd i))
    (ht : nth tab t = some ⟨.slice e, s, b⟩) (hr : nth tab e = some ⟨re, m, kb⟩) (h0 : 0 ≤ i) (h1 : i < len) (hd : d < n) (kk : Z P ops md n ((d, .pointer (some ⟨bl, i.toNat * m, none⟩)) :: l) B hp rest) :
    Z P ops md n l B hp (⟨some d, .indexAddr t x y, ty, pos, aft, none⟩ :: rest) :=
  o_indexsk hT hx hy ht hr h0 h1 hd (by simpa using kk)
theorem made_len (zs : List Value) (n : Nat) : (madeCells zs.toArray n).toList.length = n := by simp [madeCells]
theorem made_get (zs : List Value) {n j : Nat} (h : j < n) (hz : 0 < zs.length) : (madeCells zs.toArray n).toList[j]? = zs[j % zs.length]? := by
  have h1 : j % zs.length < zs.length := Nat.mod_lt _ hz
  unfold madeCells
  simp only [List.size_toArray, Array.toList_map, Array.toList_range, List.getElem?_map]
  rw [List.getElem?_range h]
  simp [h1]
end
end Go.Proofs.Ytnckabgaichkkaa.Eng
