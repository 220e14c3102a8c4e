/-
The engine, another part: parts of blocks and of values.
-/
import Derived.Test.YtnckabgaichkkaaEngW
namespace Go.Proofs.Ytnckabgaichkkaa.Eng
set_option linter.unusedVariables false
set_option linter.unusedSimpArgs false
open Go
section
variable {P : Program} {ops : Array Oper} {md : Mode} {m n : Nat} {l : Fr} {B : Base} {hp hq : List Chunk} {rest : List Oper} {o : Oper} {Q : Exit → Act → World → Prop} {F : Act → World → Prop}
variable {d : Nat} {ty : TypeId} {pos : String} {aft : Array Edge}
theorem slAt_mk (b o : Nat) : slAt (some ⟨b, 0, none⟩) o = some ⟨b, o, none⟩ := by simp [slAt, add_mk]
/-- A part, of several cells, of a block that is read. -/
theorem o_loadrw {t b k : Nat} {r : TRow} {tab : List TRow} (hT : TabOk P tab) {x : Operand} {cs es : List Value} (hrd : Rds hp (some ⟨b, 0, none⟩) cs) (hx : ev l x = some (.pointer (some ⟨b, k, none⟩))) (ht : nth tab t = some r) (ha : r.kind.agg = true)
    (hl : es.length = r.size) (hz : 0 < es.length) (hc : ∀ j u, es[j]? = some u → cs[k + j]? = some u) (hd : d < n) (kk : Z P ops md n ((d, .agg es.toArray) :: l) B hp rest) : Z P ops md n l B hp (⟨some d, .load t x, ty, pos, aft, none⟩ :: rest) :=
  o_loadsw hT hrd (by rw [slAt_mk]; exact hx) ht ha hl hz hc hd kk
/-- An element of several cells, of an array that is a value. -/
theorem o_ixw {t e len s by_ : Nat} {re : TRow} {k : IntKind} {i : Int} {cs vs : List Value} {tab : List TRow} (hT : TabOk P tab) {x y : Operand} (hx : ev l x = some (.agg cs.toArray)) (hy : ev l y = some (.int k i)) (ht : nth tab t = some ⟨.arr len e, s, by_⟩) (hr : nth tab e = some re) (ha : re.kind.agg = true)
    (h0 : 0 ≤ i) (h1 : i < len) (hc : (cs.drop (i.toNat * re.size)).take re.size = vs) (hd : d < n) (kk : Z P ops md n ((d, .agg vs.toArray) :: l) B hp rest) : Z P ops md n l B hp (⟨some d, .index t x y, ty, pos, aft, none⟩ :: rest) :=
  z_valp (Mode.fits_of rfl) rfl rfl hd (fun a w hA => by
    obtain ⟨dd, _, hu, hk, -⟩ := hT t _ ht
    cases dd <;> simp [kindOf] at hk
    obtain ⟨rfl, rfl⟩ := hk
    obtain ⟨_, i', _, _, hi', hs, _⟩ := hT _ _ hr
    have := x_partw (P := P) (o := i.toNat * re.size) hT hr ha (cs := cs) w
    rw [hc] at this
    simp [execOp, hA.eval hx, hA.eval hy, Instr.index, asIntOf, asAgg, run_underlying hu, h0, h1, sizeOf, typeInfo, hi', hs, this, Sem.run_bind, Sem.run_pure, Result.andThen]) kk
end
end Go.Proofs.Ytnckabgaichkkaa.Eng
