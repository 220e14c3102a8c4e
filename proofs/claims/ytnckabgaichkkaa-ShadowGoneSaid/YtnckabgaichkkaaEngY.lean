/-
The engine, another part: slices against nil; an empty slice made.
-/
import Derived.Test.YtnckabgaichkkaaEngX
import Derived.Lib.SliceRun
namespace Go.Proofs.Ytnckabgaichkkaa.Eng
set_option linter.unusedVariables false
set_option linter.unusedSimpArgs false
open Go
section
variable {P : Program} {ops : Array Oper} {md : Mode} {m n : Nat} {l : Fr} {B : Base} {hp hq : List Chunk} {rest : List Oper} {o : Oper} {Q : Exit → Act → World → Prop} {F : Act → World → Prop}
variable {d : Nat} {ty : TypeId} {pos : String} {aft : Array Edge}
theorem o_sleq {t t' : Nat} {x : Operand} {A : Option Addr} {k c : Nat} {tab : List TRow} (hT : TabOk P tab) {e s b : Nat} (ht : nth tab t = some ⟨.slice e, s, b⟩) (hx : ev l x = some (.slice A k c)) (hd : d < n)
    (kk : Z P ops md n ((d, .bool A.isNone) :: l) B hp rest) : Z P ops md n l B hp (⟨some d, .binOp .eql t x (.const (.slice none 0 0)) t', ty, pos, aft, none⟩ :: rest) :=
  z_valp (Mode.fits_of rfl) rfl rfl hd (fun a w hA => by
    obtain ⟨dd, i, hu, hk, -⟩ := hT t _ ht
    cases dd <;> simp [kindOf] at hk
    have hg : (eqGuard .eql t x (.const (.slice none 0 0)) (.slice A k c) (.slice none 0 0)).run P w = .ok () w := by
      unfold eqGuard; simp [Sem.run_bind, Sem.run_pure, Result.andThen]
    have hc : a.eval (.const (.slice none 0 0)) = .slice none 0 0 := rfl
    simp only [execOp, hA.eval hx, hc, Sem.run_bind, hg, Result.andThen, Lib.run_eql_slice_nil w t _ A k c 0 0 hu, Sem.run_pure]) kk
/-- An empty slice, made: it lies somewhere, and has no room. -/
theorem o_make0 {t e s b : Nat} {re : TRow} {tab : List TRow} (hme : md.canX = true) (hT : TabOk P tab) (ht : nth tab t = some ⟨.slice e, s, b⟩) (hr : nth tab e = some re) (hd : d < n)
    (kk : ∀ g, Z P ops md n ((d, .slice (some ⟨g, 0, none⟩) 0 0) :: l) B (own (some ⟨g, 0, none⟩) 0 e re.size 0 [] :: hp) rest) : Z P ops md n l B hp (⟨some d, .buildSlice t 0 #[], ty, pos, aft, none⟩ :: rest) :=
  z_new hme (X := Nat) (v := fun g => .slice (some ⟨g, 0, none⟩) 0 0) (hq := fun g => own (some ⟨g, 0, none⟩) 0 e re.size 0 [] :: hp) (Mode.fits_of rfl) (fun _ => True) hd (fun a w hA hS => by
    obtain ⟨dd, _, hu, hk', -⟩ := hT t _ ht
    cases dd <;> simp [kindOf] at hk'
    replace hu : P.underlying t = some (.slice e) := by rw [hu, hk']
    clear hk'
    refine ⟨w.heap.size, w.alloc (.cells #[] e), trivial, ?_, (hS.alloc e []).cells_own 0 re.size (by simp), Ext.alloc _ _⟩
    have hf : Instr.fill (fun i => some (i * re.size, re.size)) #[] [] = some #[] := rfl
    have hr0 : Array.range 0 = #[] := rfl
    simp [execOp, Instr.buildSlice, run_underlying hu, x_sizeOf hT hr, Sem.run_bind, Result.andThen, Sem.run, Sem.run_pure, hr0, hf, newRow, newObj]) fun g _ => kk g
/-- What is known of a slice of one's own. -/
theorem z_own2 {A : Option Addr} {c T sz k : Nat} {xs : List Value} (i : Nat) (hi : nth hp i = some (own A c T sz k xs)) (h : k ≤ c → (0 < k → A ≠ none) → Z P ops (.list Q) n l B hp rest) : Z P ops (.list Q) n l B hp rest :=
  fun a w hA hS => by
    have ho := hS.at_ i (by rw [← nth_eq]; exact hi)
    refine h (own_le ho) (fun hk => ?_) a w hA hS
    rcases ho.2 with ⟨_, rfl, _⟩ | ⟨_, _, _, rfl, _⟩
    · omega
    · exact fun e => by cases e
theorem x_fields {t i off ft : Nat} {p : Addr} {fs : List (Nat × Nat)} {s by_ : Nat} {r : TRow} {tab : List TRow} (hT : TabOk P tab) (ht : nth tab t = some ⟨.str fs, s, by_⟩) (hf : nth fs i = some (off, ft)) (hr : nth tab ft = some r)
    (hz : Nat.beq r.size 0 = false) (w : World) : (Instr.fieldAt t (.pointer (some p)) i).run P w = .ok (.pointer (some (p.add off))) w := by
  obtain ⟨dd, _, hu, hk, -⟩ := hT t _ ht
  cases dd <;> simp [kindOf] at hk
  rename_i fs'
  rw [nth_eq, ← hk] at hf
  simp only [List.getElem?_map, Option.map_eq_some_iff] at hf
  obtain ⟨f, hf, hfo⟩ := hf
  simp only [Prod.mk.injEq] at hfo
  obtain ⟨rfl, rfl⟩ := hfo
  obtain ⟨_, i', _, _, hi, hs, _⟩ := hT _ _ hr
  have hf' : fs'[i]? = some f := by simpa using hf
  have hz' : ¬ i'.size = 0 := by
    rw [hs]; intro h0; rw [h0] at hz; simp at hz
  simp [Instr.fieldAt, run_underlying hu, hf', Instr.sureAddr, fieldPlace, sizeOf, typeInfo, hi, hz', Sem.run_bind, Sem.run_pure, Result.andThen]
/-- A field of an element of a slice. -/
theorem o_fields {t i off ft k : Nat} {A : Option Addr} {fs : List (Nat × Nat)} {s by_ : Nat} {r : TRow} {tab : List TRow} (hne : A ≠ none) (hT : TabOk P tab) {x : Operand} (hx : ev l x = some (.pointer (slAt A k))) (ht : nth tab t = some ⟨.str fs, s, by_⟩)
    (hf : nth fs i = some (off, ft)) (hr : nth tab ft = some r) (hz : Nat.beq r.size 0 = false) (hd : d < n) (kk : Z P ops md n ((d, .pointer (slAt A (k + off))) :: l) B hp rest) :
    Z P ops md n l B hp (⟨some d, .fieldAddr t x i, ty, pos, aft, none⟩ :: rest) :=
  z_valp (Mode.fits_of rfl) rfl rfl hd (fun a w hA => by
    cases A with
    | none => exact absurd rfl hne
    | some p =>
      have he := hA.eval hx
      simp only [slAt, Option.map_some] at he
      simp only [execOp, he, Sem.run_bind, x_fields hT ht hf hr hz w, Result.andThen, Sem.run_pure, add_add, slAt, Option.map_some]) kk
end
end Go.Proofs.Ytnckabgaichkkaa.Eng
