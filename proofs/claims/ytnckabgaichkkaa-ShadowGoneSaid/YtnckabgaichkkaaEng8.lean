/-
The engine: == of structs and arrays of numbers and bools; fields and elements of values.
-/
import Derived.Test.YtnckabgaichkkaaEng7
import Derived.ChangeKeysEq
namespace Go.Proofs.Ytnckabgaichkkaa.Eng
set_option linter.unusedVariables false
set_option linter.unusedSimpArgs false
open Go

/-! ### What cells a type has -/
inductive CK where
  | bool
  | int (k : IntKind)
  deriving DecidableEq
def Typed : List CK → List Value → Prop
  | [], [] => True
  | .bool :: r, .bool _ :: s => Typed r s
  | .int k :: r, .int k' _ :: s => k' = k ∧ Typed r s
  | _, _ => False
theorem Typed.length : ∀ {ks : List CK} {xs : List Value}, Typed ks xs → xs.length = ks.length
  | [], [], _ => rfl
  | .bool :: r, .bool _ :: s, h => by simp [Typed] at h; simp [Typed.length h]
  | .int k :: r, .int k' _ :: s, h => by simp [Typed] at h; simp [Typed.length h.2]
  | [], _ :: _, h => by simp [Typed] at h
  | .bool :: _, [], h => by simp [Typed] at h
  | .int _ :: _, [], h => by simp [Typed] at h
theorem Typed.cons_bool {r : List CK} {xs : List Value} (h : Typed (.bool :: r) xs) : ∃ b s, xs = .bool b :: s ∧ Typed r s := by
  cases xs with
  | nil => simp [Typed] at h
  | cons v s => cases v <;> simp [Typed] at h; exact ⟨_, _, rfl, h⟩
theorem Typed.cons_int {k : IntKind} {r : List CK} {xs : List Value} (h : Typed (.int k :: r) xs) : ∃ i s, xs = .int k i :: s ∧ Typed r s := by
  cases xs with
  | nil => simp [Typed] at h
  | cons v s => cases v <;> simp [Typed] at h; obtain ⟨rfl, h⟩ := h; exact ⟨_, _, rfl, h⟩
theorem Typed.split : ∀ {a b : List CK} {xs : List Value}, Typed (a ++ b) xs → Typed a (xs.take a.length) ∧ Typed b (xs.drop a.length)
  | [], b, xs, h => by simpa [Typed] using h
  | .bool :: a, b, xs, h => by
    obtain ⟨v, s, rfl, g⟩ := Typed.cons_bool (r := a ++ b) h
    simpa [Typed] using Typed.split g
  | .int k :: a, b, xs, h => by
    obtain ⟨v, s, rfl, g⟩ := Typed.cons_int (r := a ++ b) h
    simpa [Typed] using Typed.split g
theorem Typed.append : ∀ {a b : List CK} {xs ys : List Value}, Typed a xs → Typed b ys → Typed (a ++ b) (xs ++ ys)
  | [], b, [], ys, _, h => by simpa using h
  | [], _, _ :: _, _, h, _ => by simp [Typed] at h
  | .bool :: a, b, xs, ys, h, h' => by
    obtain ⟨v, s, rfl, g⟩ := Typed.cons_bool h
    simpa [Typed] using Typed.append g h'
  | .int k :: a, b, xs, ys, h, h' => by
    obtain ⟨v, s, rfl, g⟩ := Typed.cons_int h
    simpa [Typed] using Typed.append g h'
def flatF (g : TypeId → Option (List CK)) (c : TypeId → Nat) : Nat → List Field → Option (List CK)
  | _, [] => some []
  | o, f :: fs => if f.name = "_" ∨ f.offset ≠ o then none else
    match g f.type with
    | none => none
    | some l => if c f.type = l.length then (match flatF g c (o + l.length) fs with | some r => some (l ++ r) | none => none) else none
def flat (P : Program) : Nat → TypeId → Option (List CK)
  | 0, _ => none
  | d + 1, t => match P.underlying t with
    | some .bool => some [.bool]
    | some (.int k) => some [.int k]
    | some (.array n e) => match flat P d e with
      | some l => if P.cellsOf e = l.length then some (List.replicate n l).flatten else none
      | none => none
    | some (.struct fs) => if P.stoodInHeld t = true then none else flatF (flat P d) P.cellsOf 0 fs.toList
    | _ => none
def eqB : List Value → List Value → Bool
  | [], [] => true
  | .bool a :: r, .bool b :: s => (a == b) && eqB r s
  | .int _ i :: r, .int _ j :: s => (i == j) && eqB r s
  | _, _ => false
theorem eqB_iff : ∀ {ks : List CK} {xs ys : List Value}, Typed ks xs → Typed ks ys → (eqB xs ys = true ↔ xs = ys)
  | [], [], [], _, _ => by simp [eqB]
  | [], _ :: _, _, h, _ => by simp [Typed] at h
  | [], [], _ :: _, _, h => by simp [Typed] at h
  | .bool :: r, xs, ys, h, h' => by
    obtain ⟨b, s, rfl, g⟩ := Typed.cons_bool h
    obtain ⟨b', s', rfl, g'⟩ := Typed.cons_bool h'
    simp [eqB, eqB_iff g g']
  | .int k :: r, xs, ys, h, h' => by
    obtain ⟨b, s, rfl, g⟩ := Typed.cons_int h
    obtain ⟨b', s', rfl, g'⟩ := Typed.cons_int h'
    simp [eqB, eqB_iff g g']
theorem eqB_app : ∀ {a : List CK} {xs ys us vs : List Value}, Typed a xs → Typed a ys → eqB (xs ++ us) (ys ++ vs) = (eqB xs ys && eqB us vs)
  | [], [], [], us, vs, _, _ => by simp [eqB]
  | [], _ :: _, _, _, _, h, _ => by simp [Typed] at h
  | [], [], _ :: _, _, _, _, h => by simp [Typed] at h
  | .bool :: r, xs, ys, us, vs, h, h' => by
    obtain ⟨b, s, rfl, g⟩ := Typed.cons_bool h
    obtain ⟨b', s', rfl, g'⟩ := Typed.cons_bool h'
    simp [eqB, eqB_app g g', Bool.and_assoc]
  | .int k :: r, xs, ys, us, vs, h, h' => by
    obtain ⟨b, s, rfl, g⟩ := Typed.cons_int h
    obtain ⟨b', s', rfl, g'⟩ := Typed.cons_int h'
    simp [eqB, eqB_app g g', Bool.and_assoc]
theorem Typed.part {a b : List CK} {xs : List Value} (h : Typed (a ++ b) xs) : xs = xs.take a.length ++ xs.drop a.length := (List.take_append_drop _ _).symm

section
variable {P : Program}
def EqTop (P : Program) (D : Nat) (t : TypeId) (ks : List CK) : Prop := ∀ (X Y : Array Value) (w : World), Typed ks X.toList → Typed ks Y.toList → (Op.equalIn D t (.agg X) (.agg Y)).run P w = .ok (eqB X.toList Y.toList) w
def EqAt (P : Program) (D : Nat) (t : TypeId) (ks : List CK) : Prop := ∀ (X Y : Array Value) (o : Nat) (w : World), Typed ks ((X.toList.drop o).take ks.length) → Typed ks ((Y.toList.drop o).take ks.length) →
  ∃ a b, (part t X o).run P w = .ok a w ∧ (part t Y o).run P w = .ok b w ∧ (Op.equalIn D t a b).run P w = .ok (eqB ((X.toList.drop o).take ks.length) ((Y.toList.drop o).take ks.length)) w
theorem EqTop.at_ {D : Nat} {t : TypeId} {ks : List CK} (h : EqTop P D t ks) {d : TypeDesc} (hu : P.underlying t = some d) (hd : (∃ n e, d = .array n e) ∨ (∃ fs, d = .struct fs)) (hc : P.cellsOf t = ks.length) : EqAt P D t ks := by
  intro X Y o w hX hY
  obtain ⟨i, hi⟩ := info_of_underlying hu
  have hl : ∀ X : Array Value, (X.extract o (o + P.cellsOf t)).toList = (X.toList.drop o).take ks.length := fun X => by
    rw [Array.toList_extract, ← hc]
    simp [List.extract]
  have hp : ∀ X : Array Value, (part t X o).run P w = .ok (.agg (X.extract o (o + P.cellsOf t))) w := fun X => by
    rcases hd with ⟨n, e, rfl⟩ | ⟨fs, rfl⟩ <;> simp [Go.part, isAgg, run_underlying hu, run_sizeOf w hi]
  refine ⟨_, _, hp X, hp Y, ?_⟩
  rw [h _ _ w (by rw [hl]; exact hX) (by rw [hl]; exact hY), hl, hl]
theorem eqAt_int {D : Nat} {t : TypeId} {k : IntKind} (hu : P.underlying t = some (.int k)) : EqAt P (D + 1) t [.int k] := by
  intro X Y o w hX hY
  have key : ∀ X : Array Value, Typed [.int k] ((X.toList.drop o).take 1) → ∃ i, (X.toList.drop o).take 1 = [.int k i] ∧ (part t X o).run P w = .ok (.int k i) w := fun X h => by
    obtain ⟨i, s, e, hs⟩ := Typed.cons_int h
    obtain rfl : s = [] := by cases s with
      | nil => rfl
      | cons _ _ => simp [Typed] at hs
    have := getElem?_of_chunk e
    exact ⟨i, e, by simp [Go.part, isAgg, run_underlying hu, this]⟩
  obtain ⟨i, hi, h1⟩ := key X hX
  obtain ⟨j, hj, h2⟩ := key Y hY
  refine ⟨_, _, h1, h2, ?_⟩
  show _ = Result.ok (eqB ((X.toList.drop o).take 1) ((Y.toList.drop o).take 1)) w
  rw [hi, hj, run_equalIn_int w D t k k i j hu]
  simp [eqB]
theorem eqAt_bool {D : Nat} {t : TypeId} (hu : P.underlying t = some .bool) : EqAt P (D + 1) t [.bool] := by
  intro X Y o w hX hY
  have key : ∀ X : Array Value, Typed [.bool] ((X.toList.drop o).take 1) → ∃ i, (X.toList.drop o).take 1 = [.bool i] ∧ (part t X o).run P w = .ok (.bool i) w := fun X h => by
    obtain ⟨i, s, e, hs⟩ := Typed.cons_bool h
    obtain rfl : s = [] := by cases s with
      | nil => rfl
      | cons _ _ => simp [Typed] at hs
    have := getElem?_of_chunk e
    exact ⟨i, e, by simp [Go.part, isAgg, run_underlying hu, this]⟩
  obtain ⟨i, hi, h1⟩ := key X hX
  obtain ⟨j, hj, h2⟩ := key Y hY
  refine ⟨_, _, h1, h2, ?_⟩
  show _ = Result.ok (eqB ((X.toList.drop o).take 1) ((Y.toList.drop o).take 1)) w
  rw [hi, hj, run_equalIn_bool' w D t i j hu]
  simp [eqB]
theorem eqFields_flat {D : Nat} {g : TypeId → Option (List CK)} (hg : ∀ t l, g t = some l → P.cellsOf t = l.length → EqAt P D t l) (X Y : Array Value) (w : World) : ∀ (fs : List Field) (o : Nat) (ks : List CK), flatF g P.cellsOf o fs = some ks →
    Typed ks (X.toList.drop o) → Typed ks (Y.toList.drop o) → (Op.eqFields D X Y fs).run P w = .ok (eqB (X.toList.drop o) (Y.toList.drop o)) w
  | [], o, ks, h, hX, hY => by
    simp [flatF] at h
    subst h
    have e : ∀ l : List Value, Typed [] l → l = [] := fun l h => by cases l <;> simp [Typed] at h; rfl
    rw [e _ hX, e _ hY]
    simp [Op.eqFields, eqB]
  | f :: fs, o, ks, h, hX, hY => by
    unfold flatF at h
    split at h
    · cases h
    · rename_i hn
      rw [not_or] at hn
      obtain ⟨hn, ho⟩ := hn
      have ho : f.offset = o := Decidable.not_not.1 ho
      cases hgt : g f.type with
      | none => simp [hgt] at h
      | some l =>
        simp only [hgt] at h
        split at h
        · rename_i hc
          cases hr : flatF g P.cellsOf (o + l.length) fs with
          | none => simp [hr] at h
          | some r =>
            simp only [hr, Option.some.injEq] at h
            subst h
            obtain ⟨x1, x2⟩ := hX.split
            obtain ⟨y1, y2⟩ := hY.split
            obtain ⟨a, b, pa, pb, hab⟩ := hg _ _ hgt hc X Y o w x1 y1
            rw [List.drop_drop] at x2 y2
            have ih := eqFields_flat hg X Y w fs (o + l.length) r hr x2 y2
            have eX : X.toList.drop o = (X.toList.drop o).take l.length ++ X.toList.drop (o + l.length) := by rw [← List.drop_drop]; exact (List.take_append_drop _ _).symm
            have eY : Y.toList.drop o = (Y.toList.drop o).take l.length ++ Y.toList.drop (o + l.length) := by rw [← List.drop_drop]; exact (List.take_append_drop _ _).symm
            rw [eX, eY, eqB_app x1 y1]
            subst ho
            simp only [Op.eqFields, hn, ne_eq, not_false_eq_true, if_true, Sem.run_bind, pa, pb, hab, Result.andThen_ok]
            cases hq : eqB ((X.toList.drop f.offset).take l.length) ((Y.toList.drop f.offset).take l.length)
            · simp
            · simpa using ih
        · cases h
theorem eqItems_flat {D : Nat} {e : TypeId} {l : List CK} (hc : P.cellsOf e = l.length) (hg : EqAt P D e l) (X Y : Array Value) (w : World) : ∀ (n i : Nat),
    Typed (List.replicate n l).flatten (X.toList.drop (i * l.length)) → Typed (List.replicate n l).flatten (Y.toList.drop (i * l.length)) →
    (Op.eqItems D e l.length X Y (List.range' i n)).run P w = .ok (eqB (X.toList.drop (i * l.length)) (Y.toList.drop (i * l.length))) w
  | 0, i, hX, hY => by
    have e : ∀ l : List Value, Typed [] l → l = [] := fun l h => by cases l <;> simp [Typed] at h; rfl
    simp only [List.replicate_zero, List.flatten_nil] at hX hY
    rw [e _ hX, e _ hY]
    simp [Op.eqItems, eqB]
  | n + 1, i, hX, hY => by
    simp only [List.replicate_succ, List.flatten_cons] at hX hY
    obtain ⟨x1, x2⟩ := hX.split
    obtain ⟨y1, y2⟩ := hY.split
    obtain ⟨a, b, pa, pb, hab⟩ := hg X Y (i * l.length) w x1 y1
    have es : i * l.length + l.length = (i + 1) * l.length := by rw [Nat.succ_mul]
    rw [List.drop_drop, es] at x2 y2
    have ih := eqItems_flat hc hg X Y w n (i + 1) x2 y2
    have eX : X.toList.drop (i * l.length) = (X.toList.drop (i * l.length)).take l.length ++ X.toList.drop ((i + 1) * l.length) := by rw [← es, ← List.drop_drop]; exact (List.take_append_drop _ _).symm
    have eY : Y.toList.drop (i * l.length) = (Y.toList.drop (i * l.length)).take l.length ++ Y.toList.drop ((i + 1) * l.length) := by rw [← es, ← List.drop_drop]; exact (List.take_append_drop _ _).symm
    rw [eX, eY, eqB_app x1 y1]
    simp only [List.range'_succ, Op.eqItems, Sem.run_bind, pa, pb, hab, Result.andThen_ok]
    cases hq : eqB ((X.toList.drop (i * l.length)).take l.length) ((Y.toList.drop (i * l.length)).take l.length)
    · simp
    · simpa using ih
theorem flat_at : ∀ (d : Nat) (t : TypeId) (ks : List CK), flat P d t = some ks → ∀ D, d ≤ D → (P.cellsOf t = ks.length → EqAt P D t ks) ∧ ((∃ n e, P.underlying t = some (.array n e)) ∨ (∃ fs, P.underlying t = some (.struct fs)) → EqTop P D t ks)
  | 0, t, ks, h, D, hD => by simp [flat] at h
  | d + 1, t, ks, h, D, hD => by
    obtain ⟨D, rfl⟩ : ∃ m, D = m + 1 := ⟨D - 1, by omega⟩
    unfold flat at h
    cases hu : P.underlying t with
    | none => simp [hu] at h
    | some dd =>
      simp only [hu] at h
      cases dd with
      | bool => simp at h; subst h; exact ⟨fun _ => eqAt_bool hu, fun h => by simp at h⟩
      | int k => simp at h; subst h; exact ⟨fun _ => eqAt_int hu, fun h => by simp at h⟩
      | array n e =>
        cases hf : flat P d e with
        | none => simp [hf] at h
        | some l =>
          simp only [hf] at h
          split at h
          · rename_i hc
            injection h with h
            subst h
            have top : EqTop P (D + 1) t (List.replicate n l).flatten := fun X Y w hX hY => by
              obtain ⟨i, hi⟩ : ∃ i, P.info? e = some i := by
                cases d with
                | zero => simp [flat] at hf
                | succ d =>
                  unfold flat at hf
                  cases hue : P.underlying e with
                  | none => simp [hue] at hf
                  | some _ => exact info_of_underlying hue
              rw [run_equalIn_array w D X Y hu hi, hc, List.range_eq_range']
              have := eqItems_flat hc ((flat_at d e l hf D (by omega)).1 hc) X Y w n 0 (by simpa using hX) (by simpa using hY)
              simpa using this
            exact ⟨fun hc => top.at_ hu (.inl ⟨_, _, rfl⟩) hc, fun _ => top⟩
          · cases h
      | struct fs =>
        simp only at h
        split at h
        · cases h
        · rename_i hs
          have top : EqTop P (D + 1) t ks := fun X Y w hX hY => by
            have hfo : P.fieldsOf t = fs := by simp [Program.fieldsOf, hu]
            rw [run_equalIn_struct w D t X Y (by rw [hfo]; exact hu) (by simpa using hs), hfo]
            have := eqFields_flat (fun t' l hl hc => (flat_at d t' l hl D (by omega)).1 hc) X Y w fs.toList 0 ks h (by simpa using hX) (by simpa using hY)
            simpa using this
          exact ⟨fun hc => top.at_ hu (.inr ⟨_, rfl⟩) hc, fun _ => top⟩
      | _ => simp at h
end

section
variable {P : Program} {ops : Array Oper} {md : Mode} {n : Nat} {l : Fr} {B : Base} {hp hq : List Chunk} {rest : List Oper} {o : Oper} {Q : Exit → Act → World → Prop} {F : Act → World → Prop}
variable {d : Nat} {ty : TypeId} {pos : String} {aft : Array Edge}
/-- What is to be known of a type to compare two of it. -/
structure Cmp (P : Program) (t : TypeId) (ks : List CK) : Prop where
  flat : flat P 20 t = some ks
  agg : (∃ n e, P.underlying t = some (.array n e)) ∨ (∃ fs, P.underlying t = some (.struct fs))
  guard : P.eqGuardType P.depth t = false
theorem o_eqa {t t' : Nat} {x y : Operand} {ks : List CK} {xs ys : List Value} (hC : Cmp P t ks) (hx : ev l x = some (.agg xs.toArray)) (hy : ev l y = some (.agg ys.toArray)) (h1 : Typed ks xs) (h2 : Typed ks ys) (hd : d < n)
    (kk : Z P ops md n ((d, .bool (eqB xs ys)) :: l) B hp rest) : Z P ops md n l B hp (⟨some d, .binOp .eql t x y t', ty, pos, aft, none⟩ :: rest) :=
  z_valp (Mode.fits_of rfl) rfl rfl hd (fun a w hA => by
    have := (flat_at 20 t ks hC.flat 10000 (by omega)).2 hC.agg xs.toArray ys.toArray w (by simpa using h1) (by simpa using h2)
    simp only [execOp, hA.eval hx, hA.eval hy, Sem.run_bind, run_eqGuard_agg w .eql t x y _ _ hC.guard, Result.andThen, run_eql_struct, this, Sem.run_pure]) kk
theorem o_nea {t t' : Nat} {x y : Operand} {ks : List CK} {xs ys : List Value} (hC : Cmp P t ks) (hx : ev l x = some (.agg xs.toArray)) (hy : ev l y = some (.agg ys.toArray)) (h1 : Typed ks xs) (h2 : Typed ks ys) (hd : d < n)
    (kk : Z P ops md n ((d, .bool (!eqB xs ys)) :: l) B hp rest) : Z P ops md n l B hp (⟨some d, .binOp .neq t x y t', ty, pos, aft, none⟩ :: rest) :=
  z_valp (Mode.fits_of rfl) rfl rfl hd (fun a w hA => by
    have := (flat_at 20 t ks hC.flat 10000 (by omega)).2 hC.agg xs.toArray ys.toArray w (by simpa using h1) (by simpa using h2)
    simp only [execOp, hA.eval hx, hA.eval hy, Sem.run_bind, run_eqGuard_agg w .neq t x y _ _ hC.guard, Result.andThen, run_neq_struct, this, Sem.run_pure]) kk

/- fields and elements of values -/
theorem x_part1 {t o : Nat} {r : TRow} {tab : List TRow} (hT : TabOk P tab) (ht : nth tab t = some r) (ha : r.kind.agg = false) {cs : Array Value} {v : Value} (hc : cs[o]? = some v) (w : World) : (part t cs o).run P w = .ok v w := by
  simp [Go.part, x_isAgg hT ht, ha, hc, Sem.run_bind, Sem.run_pure, Result.andThen]
theorem x_partw {t o : Nat} {r : TRow} {tab : List TRow} (hT : TabOk P tab) (ht : nth tab t = some r) (ha : r.kind.agg = true) {cs : List Value} (w : World) : (part t cs.toArray o).run P w = .ok (.agg ((cs.drop o).take r.size).toArray) w := by
  have : cs.toArray.extract o (o + r.size) = ((cs.drop o).take r.size).toArray := by
    apply Array.ext'
    rw [Array.toList_extract]
    simp [List.extract]
  simp [Go.part, x_isAgg hT ht, ha, x_sizeOf hT ht, Sem.run_bind, Sem.run_pure, Result.andThen, this]
theorem x_fieldv {t i off ft : Nat} {fs : List (Nat × Nat)} {s by_ : Nat} {tab : List TRow} (hT : TabOk P tab) (ht : nth tab t = some ⟨.str fs, s, by_⟩) (hf : nth fs i = some (off, ft)) (cs : Array Value) (w : World) : (Instr.field t (.agg cs) i).run P w = (part ft cs off).run P w := by
  obtain ⟨dd, _, hu, hk, -⟩ := hT t _ ht
  cases dd <;> simp [kindOf] at hk
  rename_i fs'
  rw [nth_eq, ← hk] at hf
  simp only [List.getElem?_map, Option.map_eq_some_iff] at hf
  obtain ⟨f, hf, hfo⟩ := hf
  simp only [Prod.mk.injEq] at hfo
  obtain ⟨rfl, rfl⟩ := hfo
  have hf' : fs'[i]? = some f := by simpa using hf
  simp [Instr.field, run_underlying hu, hf', asAgg, Sem.run_bind, Sem.run_pure, Result.andThen]
/-- A field of one cell, of a struct that is a value. -/
theorem o_fv {t i off ft s by_ : Nat} {fs : List (Nat × Nat)} {r : TRow} {cs : List Value} {v : Value} {tab : List TRow} (hT : TabOk P tab) {x : Operand} (hx : ev l x = some (.agg cs.toArray)) (ht : nth tab t = some ⟨.str fs, s, by_⟩) (hf : nth fs i = some (off, ft)) (hr : nth tab ft = some r) (ha : r.kind.agg = false)
    (hc : cs[off]? = some v) (hd : d < n) (kk : Z P ops md n ((d, v) :: l) B hp rest) : Z P ops md n l B hp (⟨some d, .field t x i, ty, pos, aft, none⟩ :: rest) :=
  z_valp (Mode.fits_of rfl) rfl rfl hd (fun a w hA => by
    simp only [execOp, hA.eval hx, Sem.run_bind, x_fieldv hT ht hf, x_part1 hT hr ha (show cs.toArray[off]? = some v by simpa using hc) w, Result.andThen, Sem.run_pure]) kk
theorem o_fvw {t i off ft s by_ : Nat} {fs : List (Nat × Nat)} {r : TRow} {cs vs : List Value} {tab : List TRow} (hT : TabOk P tab) {x : Operand} (hx : ev l x = some (.agg cs.toArray)) (ht : nth tab t = some ⟨.str fs, s, by_⟩) (hf : nth fs i = some (off, ft)) (hr : nth tab ft = some r) (ha : r.kind.agg = true)
    (hc : (cs.drop off).take r.size = vs) (hd : d < n) (kk : Z P ops md n ((d, .agg vs.toArray) :: l) B hp rest) : Z P ops md n l B hp (⟨some d, .field t x i, ty, pos, aft, none⟩ :: rest) :=
  z_valp (Mode.fits_of rfl) rfl rfl hd (fun a w hA => by
    simp only [execOp, hA.eval hx, Sem.run_bind, x_fieldv hT ht hf, x_partw hT hr ha w, hc, Result.andThen, Sem.run_pure]) kk
/-- An element of one cell, of an array that is a value. -/
theorem o_ixv {t e len s by_ kb : Nat} {re : TKind} {k : IntKind} {i : Int} {cs : List Value} {v : Value} {tab : List TRow} (hT : TabOk P tab) {x y : Operand} (hx : ev l x = some (.agg cs.toArray)) (hy : ev l y = some (.int k i)) (ht : nth tab t = some ⟨.arr len e, s, by_⟩) (hr : nth tab e = some ⟨re, 1, kb⟩) (ha : re.agg = false)
    (h0 : 0 ≤ i) (h1 : i < len) (hc : cs[i.toNat]? = some v) (hd : d < n) (kk : Z P ops md n ((d, v) :: l) B hp rest) : Z P ops md n l B hp (⟨some d, .index t x y, ty, pos, aft, none⟩ :: rest) :=
  z_valp (Mode.fits_of rfl) rfl rfl hd (fun a w hA => by
    obtain ⟨dd, _, hu, hk, -⟩ := hT t _ ht
    cases dd <;> simp [kindOf] at hk
    obtain ⟨rfl, rfl⟩ := hk
    have hp := x_part1 (P := P) hT hr ha (show cs.toArray[i.toNat]? = some v by simpa using hc) w
    simp only [execOp, hA.eval hx, hA.eval hy, Instr.index, asIntOf, run_underlying hu, h0, h1, and_self, if_true, x_sizeOf hT hr, Nat.mul_one, Sem.run_bind, Sem.run_pure, Result.andThen, hp]) kk
/-- A byte of a string. -/
theorem o_ixs {t : Nat} {k : IntKind} {i : Int} {str : ByteArray} {x y : Operand} (hx : ev l x = some (.string str)) (hy : ev l y = some (.int k i)) (hu : P.underlying t = some .string)
    (h0 : 0 ≤ i) {b : UInt8} (h1 : str[i.toNat]? = some b) (hd : d < n) (kk : Z P ops md n ((d, .int .u8 b.toNat) :: l) B hp rest) : Z P ops md n l B hp (⟨some d, .index t x y, ty, pos, aft, none⟩ :: rest) :=
  z_valp (Mode.fits_of rfl) rfl rfl hd (fun a w hA => by
    simp only [execOp, hA.eval hx, hA.eval hy, Instr.index, asIntOf, run_underlying hu, h0, if_true, h1, Sem.run_bind, Sem.run_pure, Result.andThen]) kk
end
end Go.Proofs.Ytnckabgaichkkaa.Eng
