/-
What came in, opened: numbers, bools, strings, lists of such, structs of such, to any depth.
-/
import Derived.Deep.Fields
import Derived.Deep.Slices
import Derived.ChangeSame
import Derived.ChangeOld
import Derived.Carry
import Derived.Below
import Derived.OpenShut
import Derived.Test.YtnckabgaichkkaaEng6
namespace Go.Proofs.Ytnckabgaichkkaa.Eng
set_option linter.unusedVariables false
set_option linter.unusedSimpArgs false
open Go.ChangeShapes Go.WideShapes Go.Deep Go.RowKit

/-- The shape of what came in. -/
inductive Sh
  | int (k : IntKind)
  | bool
  | str
  | slice (e : Sh)
  | struct (l : List Sh)
  | parts (l : List (Nat × Sh))
  | rows (n m : Nat) (e : Sh)
/-- Where part j begins. -/
def offs (l : List (Nat × Sh)) (k : Nat) : List (Nat × Nat) := match l with
  | [] => []
  | (n, _) :: r => (k, n) :: offs r (k + n)
def tot : List (Nat × Sh) → Nat
  | [] => 0
  | (n, _) :: r => n + tot r
/-- A type of the program has this shape. -/
inductive Fits (P : Program) : TypeId → Sh → Prop
  | int {t : TypeId} {k : IntKind} (h : P.underlying t = some (.int k)) : Fits P t (.int k)
  | bool {t : TypeId} (h : P.underlying t = some .bool) : Fits P t .bool
  | str {t : TypeId} (h : P.underlying t = some .string) : Fits P t .str
  | slice {t e : TypeId} {s : Sh} (h : P.underlying t = some (.slice e)) (he : Fits P e s) : Fits P t (.slice s)
  | struct {t : TypeId} {fs : Array Field} {l : List Sh} (h : P.underlying t = some (.struct fs)) (hone : oneCellFields P fs = true) (hC : P.cellsOf t = fs.size) (hl : l.length = fs.size) (hf : ∀ (j : Nat) (f : Field) (s : Sh), fs[j]? = some f → l[j]? = some s → Fits P f.type s) : Fits P t (.struct l)
  | parts {t : TypeId} {fs : List Field} {l : List (Nat × Sh)} (h : P.underlying t = some (.struct fs.toArray)) (hl : l.length = fs.length) (hC : P.cellsOf t = tot l) (ho : fs.map (fun f => (f.offset, P.cellsOf f.type)) = offs l 0) (hf : ∀ (j : Nat) (f : Field) (p : Nat × Sh), fs[j]? = some f → l[j]? = some p → Fits P f.type p.2) : Fits P t (.parts l)
  | rows {t e : TypeId} {n m : Nat} {s : Sh} (h : P.underlying t = some (.array n e)) (hm : P.cellsOf e = m) (hC : P.cellsOf t = n * m) (he : Fits P e s) : Fits P t (.rows n m s)
/-- These cells are such a value, in this world. -/
inductive Is (W : World) : Sh → List Value → Prop
  | int (k : IntKind) (i : Int) (h : (Lit.int k i).wf = true) : Is W (.int k) [.int k i]
  | bool (b : Bool) : Is W .bool [.bool b]
  | str (s : ByteArray) (h : s.size ≤ maxLen) : Is W .str [.string s]
  | slice (e : Sh) (A : Option Addr) (c : Nat) (rows : List (List Value)) (hc : rows.length ≤ c) (hm : c ≤ maxLen) (hr : ∀ r ∈ rows, Is W e r) (hd : Rd W A rows.flatten) : Is W (.slice e) [.slice A rows.length c]
  | struct (l : List Sh) (cs : List Value) (hl : cs.length = l.length) (h : ∀ (j : Nat) (s : Sh) (v : Value), l[j]? = some s → cs[j]? = some v → Is W s [v]) : Is W (.struct l) cs
  | parts (l : List (Nat × Sh)) (cs : List Value) (hl : cs.length = tot l) (h : ∀ (j : Nat) (p : Nat × Sh) (o : Nat × Nat), l[j]? = some p → (offs l 0)[j]? = some o → Is W p.2 ((cs.drop o.1).take o.2)) : Is W (.parts l) cs
  | rows (n m : Nat) (e : Sh) (cs : List Value) (hl : cs.length = n * m) (h : ∀ i, i < n → Is W e ((cs.drop (i * m)).take m)) : Is W (.rows n m e) cs

theorem flatten_at {n : Nat} : ∀ (rows : List (List Value)), (∀ r ∈ rows, r.length = n) → ∀ (j : Nat) (u : Value), rows.flatten[j]? = some u → ∃ (i k : Nat) (r : List Value), i < rows.length ∧ rows[i]? = some r ∧ r[k]? = some u ∧ k < n ∧ j = i * n + k
  | [], _, j, u, h => by simp at h
  | r :: rows, hn, j, u, h => by
    have hr := hn r (by simp)
    rw [List.flatten_cons, List.getElem?_append] at h
    split at h
    · rename_i hj
      exact ⟨0, j, r, by simp, by simp, h, by omega, by simp⟩
    · rename_i hj
      obtain ⟨i, k, r', h1, h2, h3, h4, h5⟩ := flatten_at rows (fun r hr => hn r (List.mem_cons_of_mem _ hr)) _ u h
      exact ⟨i + 1, k, r', by simpa using h1, by simpa using h2, h3, h4, by rw [Nat.succ_mul]; omega⟩

theorem is_of {H : Type} {enc : TypeId × Value → H} {P : Program} {W : World} {base : Nat} {spare : Nat → Bool} {held : Bool} {t : TypeId} {s : Sh} (h : Fits P t s) :
    ∀ {fuel : Nat} {cs : List Value} {x : DataW H × List MemPlace}, DataW.trod enc P W base spare held fuel t cs = some x → Is W s cs := by
  induction h with
  | int h =>
    intro fuel cs x hx
    obtain ⟨i, rfl, _, hw⟩ := DataW.trod_int h hx
    exact .int _ _ hw
  | bool h =>
    intro fuel cs x hx
    obtain ⟨i, rfl, _⟩ := DataW.trod_bool h hx
    exact .bool _
  | str h =>
    intro fuel cs x hx
    obtain ⟨i, rfl, _, hs⟩ := DataW.trod_string h hx
    exact .str _ hs
  | @slice t e s h he ih =>
    intro fuel cs x hx
    rcases Go.Deep.open_slice h hx with ⟨rfl, _⟩ | ⟨a, len, cap, m, n, D, Pl, rfl, _, hl, hm, hmm, _, hi⟩
    · exact .slice _ none 0 [] (by simp) (by simp) (by simp) (fun j u hu => by simp at hu)
    · have hlm : len ≤ m := by subst hmm; split <;> omega
      have hex : ∀ i, ∃ cs', i < m → W.cells? base (a.add (i * P.cellsOf e)) (P.cellsOf e) = some cs' ∧ Is W s cs' := fun i => by
        by_cases him : i < m
        · obtain ⟨cs', h1, h2⟩ := hi i him
          exact ⟨cs', fun _ => ⟨h1, ih h2⟩⟩
        · exact ⟨[], fun h => absurd h him⟩
      have hlen : ((List.range len).map fun i => Classical.choose (hex i)).length = len := by simp
      have := Is.slice (W := W) s (some a) cap ((List.range len).map fun i => Classical.choose (hex i)) (by rw [hlen]; exact hl) hm (fun r hr => by
        obtain ⟨i, him, rfl⟩ := List.mem_map.1 hr
        exact (Classical.choose_spec (hex i) (by have := List.mem_range.1 him; omega)).2) (fun j u hu => by
        obtain ⟨i, k, r, h1, h2, h3, h4, rfl⟩ := flatten_at (n := P.cellsOf e) _ (fun r hr => by
          obtain ⟨i, him, rfl⟩ := List.mem_map.1 hr
          exact (World.cells?_some (Classical.choose_spec (hex i) (by have := List.mem_range.1 him; omega)).1).2.1) j u hu
        rw [hlen] at h1
        rw [List.getElem?_map, List.getElem?_range h1] at h2
        simp at h2
        subst h2
        have := (World.cells?_some (Classical.choose_spec (hex i) (by omega)).1).2.2 k h4
        refine ⟨a, rfl, ?_⟩
        rw [h3, Go.Deep.add_add] at this
        exact this)
      rw [hlen] at this
      exact this
  | @struct t fs l h hone hC hl hf ih =>
    intro fuel cs x hx
    obtain ⟨ys, n', hn', hy, hlen, hyl, hg⟩ := DataW.trod_struct h hx
    refine .struct _ _ (by omega) fun j s v hs hv => ?_
    have hj : j < fs.size := by have := (List.getElem?_eq_some_iff.1 hs).1; omega
    have hfj : fs[j]? = some fs[j] := Array.getElem?_eq_getElem hj
    obtain ⟨ho, hk⟩ := hone_of hone j _ hfj
    have h1 := hg j _ hfj
    rw [ho, hk] at h1
    have hone' : (cs.drop j).take 1 = [v] := by
      obtain ⟨hjl, hv'⟩ := List.getElem?_eq_some_iff.1 hv
      rw [List.drop_eq_getElem_cons hjl, ← hv']
      rfl
    rw [hone'] at h1
    have hys : ys[j]? = some (ys[j]'(by omega)) := List.getElem?_eq_getElem (by omega)
    exact ih j _ s hfj hs (h1.trans hys)
  | @parts t fs l h hl hC ho hf ih =>
    intro fuel cs x hx
    obtain ⟨ys, n', hn', hy, hlen, hyl, hg⟩ := DataW.trod_struct h hx
    refine .parts _ _ (hlen.trans hC) fun j p o hp hoj => ?_
    have hj : j < fs.length := by have := (List.getElem?_eq_some_iff.1 hp).1; omega
    have hfj : fs[j]? = some fs[j] := List.getElem?_eq_getElem hj
    have h1 := hg j fs[j] (by rw [List.getElem?_toArray]; exact hfj)
    have hys : ys[j]? = some (ys[j]'(by rw [hyl]; simpa using hj)) := List.getElem?_eq_getElem _
    rw [← ho, List.getElem?_map, hfj] at hoj
    simp only [Option.map_some, Option.some.injEq] at hoj
    subst hoj
    exact ih j _ p hfj hp (h1.trans hys)
  | @rows t e n m s h hm hC he ih =>
    intro fuel cs x hx
    obtain ⟨ys, n', hn', hy, hlen, hyl, hg⟩ := Go.DataW.trod_array h hx
    refine .rows _ _ _ _ (hlen.trans hC) fun i hi => ?_
    have h1 := hg i hi
    rw [hm] at h1
    have hys : ys[i]? = some (ys[i]'(by omega)) := List.getElem?_eq_getElem _
    exact ih (h1.trans hys)

inductive FitsParts (P : Program) : List Field → List (Nat × Sh) → Prop
  | nil : FitsParts P [] []
  | cons {f : Field} {n : Nat} {s : Sh} {fs : List Field} {l : List (Nat × Sh)} (h : Fits P f.type s) (r : FitsParts P fs l) : FitsParts P (f :: fs) ((n, s) :: l)
theorem Fits.ofParts {P : Program} {t : TypeId} {fs : List Field} {l : List (Nat × Sh)} (h : P.underlying t = some (.struct fs.toArray)) (hC : P.cellsOf t = tot l) (ho : fs.map (fun f => (f.offset, P.cellsOf f.type)) = offs l 0) (hf : FitsParts P fs l) : Fits P t (.parts l) := by
  have hlen : ∀ {fs : List Field} {l : List (Nat × Sh)}, FitsParts P fs l → l.length = fs.length ∧ ∀ (j : Nat) (f : Field) (p : Nat × Sh), fs[j]? = some f → l[j]? = some p → Fits P f.type p.2 := by
    intro fs l h
    induction h with
    | nil => exact ⟨rfl, fun j f s hf => by simp at hf⟩
    | cons h1 _ ih =>
      refine ⟨by simp [ih.1], fun j f s hf hs => ?_⟩
      cases j with
      | zero => simp at hf hs; subst hf; subst hs; exact h1
      | succ j => simp at hf hs; exact ih.2 j f s hf hs
  exact .parts h (hlen hf).1 hC ho (hlen hf).2
inductive FitsAll (P : Program) : List Field → List Sh → Prop
  | nil : FitsAll P [] []
  | cons {f : Field} {s : Sh} {fs : List Field} {l : List Sh} (h : Fits P f.type s) (r : FitsAll P fs l) : FitsAll P (f :: fs) (s :: l)
/-- Field by field. -/
theorem Fits.of {P : Program} {t : TypeId} {fs : List Field} {l : List Sh} (h : P.underlying t = some (.struct fs.toArray)) (hone : oneCellFields P fs.toArray = true) (hC : P.cellsOf t = fs.length) (hf : FitsAll P fs l) : Fits P t (.struct l) := by
  have hlen : ∀ {fs : List Field} {l : List Sh}, FitsAll P fs l → l.length = fs.length ∧ ∀ (j : Nat) (f : Field) (s : Sh), fs[j]? = some f → l[j]? = some s → Fits P f.type s := by
    intro fs l h
    induction h with
    | nil => exact ⟨rfl, fun j f s hf => by simp at hf⟩
    | cons h1 _ ih =>
      refine ⟨by simp [ih.1], fun j f s hf hs => ?_⟩
      cases j with
      | zero => simp at hf hs; subst hf; subst hs; exact h1
      | succ j => simp at hf hs; exact ih.2 j f s hf hs
  exact .struct h hone (by simpa using hC) (by simpa using (hlen hf).1) fun j f s h1 h2 => (hlen hf).2 j f s (by simpa using h1) h2
/-- A parameter's value. -/
theorem is_param {H : Type} {enc : TypeId × Value → H} {P : Program} {W : World} {base b0 : Nat} {spare : Nat → Bool} {held : Bool} {r : Reach} {t : TypeId} {s : Sh} {v : Value} {d : DataW H} {p : List MemPlace} (hf : Fits P t s)
    (hv : Value.okWide P W r b0 t v) (h : DataW.Trod enc P W base spare held t v d p) : Is W s v.cells.toList := by
  obtain ⟨fuel, hx⟩ := h
  exact is_of hf hx

/- what a value of a shape looks like -/
theorem Is.int_inv {W : World} {k : IntKind} {v : Value} (h : Is W (.int k) [v]) : ∃ i, v = .int k i ∧ (Lit.int k i).wf = true := by
  cases h with
  | int _ i hw => exact ⟨i, rfl, hw⟩
theorem Is.bool_inv {W : World} {v : Value} (h : Is W .bool [v]) : ∃ b, v = .bool b := by
  cases h with
  | bool b => exact ⟨b, rfl⟩
theorem Is.str_inv {W : World} {v : Value} (h : Is W .str [v]) : ∃ s, v = .string s ∧ s.size ≤ maxLen := by
  cases h with
  | str s hs => exact ⟨s, rfl, hs⟩
theorem Is.slice_inv {W : World} {e : Sh} {v : Value} (h : Is W (.slice e) [v]) : ∃ A c rows, v = .slice A (List.length rows) c ∧ rows.length ≤ c ∧ c ≤ maxLen ∧ (∀ r ∈ rows, Is W e r) ∧ Rd W A rows.flatten := by
  cases h with
  | slice _ A c rows h1 h2 h3 h4 => exact ⟨A, c, rows, rfl, h1, h2, h3, h4⟩
theorem rows_of {W : World} {α : Type} {e : Sh} {g : α → List Value} (Q : α → Prop) (hg : ∀ r, Is W e r → ∃ a, r = g a ∧ Q a) : ∀ (rows : List (List Value)), (∀ r ∈ rows, Is W e r) → ∃ l : List α, rows = l.map g ∧ ∀ a ∈ l, Q a
  | [], _ => ⟨[], rfl, by simp⟩
  | r :: rows, h => by
    obtain ⟨l, hl, hq⟩ := rows_of Q hg rows fun r hr => h r (List.mem_cons_of_mem _ hr)
    obtain ⟨a, ha, hqa⟩ := hg r (h r (by simp))
    exact ⟨a :: l, by rw [ha, hl]; rfl, fun b hb => by rcases List.mem_cons.1 hb with rfl | hb; exact hqa; exact hq b hb⟩
/-- A slice whose elements are known: as a list of these. -/
theorem Is.list {W : World} {α : Type} {e : Sh} {v : Value} (g : α → List Value) (Q : α → Prop) (hg : ∀ r, Is W e r → ∃ a, r = g a ∧ Q a) (h : Is W (.slice e) [v]) :
    ∃ A c l, v = .slice A (List.length l) c ∧ l.length ≤ c ∧ c ≤ maxLen ∧ (∀ a ∈ l, Q a) ∧ Rd W A (l.flatMap g) := by
  obtain ⟨A, c, rows, rfl, h1, h2, h3, h4⟩ := h.slice_inv
  obtain ⟨l, rfl, hq⟩ := rows_of Q hg rows h3
  rw [← List.flatMap_def] at h4
  rw [List.length_map] at h1 ⊢
  exact ⟨A, c, l, rfl, h1, h2, hq, h4⟩
theorem Is.cell {W : World} {k : IntKind} {r : List Value} (h : Is W (.int k) r) : ∃ i : Int, r = [.int k i] ∧ (Lit.int k i).wf = true := by
  cases h with
  | int _ i hw => exact ⟨i, rfl, hw⟩
theorem Is.ints {W : World} {k : IntKind} {v : Value} (h : Is W (.slice (.int k)) [v]) :
    ∃ A c zs, v = .slice A (List.length zs) c ∧ zs.length ≤ c ∧ c ≤ maxLen ∧ (∀ z ∈ zs, (Lit.int k z).wf = true) ∧ Rd W A (zs.map (Value.int k)) := by
  obtain ⟨A, c, l, rfl, h1, h2, h3, h4⟩ := h.list (fun i : Int => [Value.int k i]) (fun i => (Lit.int k i).wf = true) (fun r hr => hr.cell)
  refine ⟨A, c, l, rfl, h1, h2, h3, ?_⟩
  rw [List.map_eq_flatMap]
  exact h4
theorem Is.struct1 {W : World} {a : Sh} {r : List Value} (h : Is W (.struct [a]) r) : ∃ x, r = [x] ∧ Is W a [x] := by
  cases h with
  | struct _ cs hl h =>
    match r, hl with
    | [x], _ => exact ⟨x, rfl, h 0 _ _ rfl rfl⟩
theorem Is.struct2 {W : World} {a b : Sh} {r : List Value} (h : Is W (.struct [a, b]) r) : ∃ x y, r = [x, y] ∧ Is W a [x] ∧ Is W b [y] := by
  cases h with
  | struct _ cs hl h =>
    match r, hl with
    | [x, y], _ => exact ⟨x, y, rfl, h 0 _ _ rfl rfl, h 1 _ _ rfl rfl⟩
theorem Is.struct3 {W : World} {a b c : Sh} {r : List Value} (h : Is W (.struct [a, b, c]) r) : ∃ x y z, r = [x, y, z] ∧ Is W a [x] ∧ Is W b [y] ∧ Is W c [z] := by
  cases h with
  | struct _ cs hl h =>
    match r, hl with
    | [x, y, z], _ => exact ⟨x, y, z, rfl, h 0 _ _ rfl rfl, h 1 _ _ rfl rfl, h 2 _ _ rfl rfl⟩
theorem Is.struct4 {W : World} {a b c d : Sh} {r : List Value} (h : Is W (.struct [a, b, c, d]) r) : ∃ x y z u, r = [x, y, z, u] ∧ Is W a [x] ∧ Is W b [y] ∧ Is W c [z] ∧ Is W d [u] := by
  cases h with
  | struct _ cs hl h =>
    match r, hl with
    | [x, y, z, u], _ => exact ⟨x, y, z, u, rfl, h 0 _ _ rfl rfl, h 1 _ _ rfl rfl, h 2 _ _ rfl rfl, h 3 _ _ rfl rfl⟩
theorem Is.struct5 {W : World} {a b c d e : Sh} {r : List Value} (h : Is W (.struct [a, b, c, d, e]) r) : ∃ x y z u s, r = [x, y, z, u, s] ∧ Is W a [x] ∧ Is W b [y] ∧ Is W c [z] ∧ Is W d [u] ∧ Is W e [s] := by
  cases h with
  | struct _ cs hl h =>
    match r, hl with
    | [x, y, z, u, s], _ => exact ⟨x, y, z, u, s, rfl, h 0 _ _ rfl rfl, h 1 _ _ rfl rfl, h 2 _ _ rfl rfl, h 3 _ _ rfl rfl, h 4 _ _ rfl rfl⟩
theorem Is.rows_inv {W : World} {n m : Nat} {e : Sh} {cs : List Value} (h : Is W (.rows n m e) cs) : cs.length = n * m ∧ ∀ i, i < n → Is W e ((cs.drop (i * m)).take m) := by
  cases h with
  | rows _ _ _ _ hl h => exact ⟨hl, h⟩
theorem Is.parts_inv {W : World} {l : List (Nat × Sh)} {cs : List Value} (h : Is W (.parts l) cs) : cs.length = tot l ∧ ∀ (j : Nat) (p : Nat × Sh) (o : Nat × Nat), l[j]? = some p → (offs l 0)[j]? = some o → Is W p.2 ((cs.drop o.1).take o.2) := by
  cases h with
  | parts _ _ hl h => exact ⟨hl, h⟩
/-- An array of numbers. -/
theorem Is.ints_of {W : World} {k : IntKind} {n : Nat} {cs : List Value} (h : Is W (.rows n 1 (.int k)) cs) : ∃ f : Nat → Int, cs = (List.range n).map (fun i => Value.int k (f i)) ∧ ∀ i, (Lit.int k (f i)).wf = true := by
  have hl : cs.length = n := by have := h.rows_inv.1; omega
  have hx : ∀ i, ∃ z : Int, (Lit.int k z).wf = true ∧ (i < n → cs[i]? = some (Value.int k z)) := fun i => by
    by_cases hi : i < n
    · obtain ⟨z, hz, hw⟩ := (h.rows_inv.2 i hi).cell
      refine ⟨z, hw, fun _ => ?_⟩
      rw [Nat.mul_one, List.drop_eq_getElem_cons (by omega)] at hz
      rw [List.getElem?_eq_getElem (by omega)]
      injection hz with h1
      rw [h1]
    · refine ⟨0, ?_, fun h => absurd h hi⟩
      cases k <;> rfl
  refine ⟨fun i => Classical.choose (hx i), ?_, fun i => (Classical.choose_spec (hx i)).1⟩
  refine List.ext_getElem? fun i => ?_
  by_cases hi : i < n
  · rw [(Classical.choose_spec (hx i)).2 hi, List.getElem?_map, List.getElem?_range hi]
    rfl
  · rw [List.getElem?_eq_none (by omega), List.getElem?_eq_none (by simpa using hi)]
/-- A whole struct that came in by value. -/
theorem agg_of {P : Program} {W : World} {r : Reach} {b0 : Nat} {t : TypeId} {fs : Array Field} {v : Value} {s : Sh} (ht : P.underlying t = some (.struct fs)) (hv : Value.okWide P W r b0 t v) (h : Is W s v.cells.toList) : ∃ cs : List Value, v = .agg cs.toArray ∧ Is W s cs := by
  obtain ⟨cs, rfl, _⟩ := okWide_struct ht hv
  exact ⟨cs.toList, by simp, h⟩
end Go.Proofs.Ytnckabgaichkkaa.Eng
