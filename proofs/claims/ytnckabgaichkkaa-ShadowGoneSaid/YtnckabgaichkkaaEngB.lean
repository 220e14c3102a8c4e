/-
Maps from two numbers to a number and a yes or no: made, asked, written, ranged over.
-/
import Derived.Test.YtnckabgaichkkaaEngW
import Derived.Maps.Range
namespace Go.Proofs.Ytnckabgaichkkaa.Eng
set_option linter.unusedVariables false
set_option linter.unusedSimpArgs false
open Go Go.MapKept Go.ChangeMaps
def pk (s p : Int) : Value := .agg #[.int .i64 s, .int .i64 p]
def bv (f : Int) (w : Bool) : Value := .agg #[.int .i64 f, .bool w]
theorem pk_inj {s p s' p' : Int} : pk s p = pk s' p' ↔ s = s' ∧ p = p' := by simp [pk]
theorem bv_inj {s s' : Int} {p p' : Bool} : bv s p = bv s' p' ↔ s = s' ∧ p = p' := by simp [bv]
abbrev Mp := Int → Int → Option (Int × Bool)
def upM (M : Mp) (s p : Int) (v : Int × Bool) : Mp := fun a b => if a = s ∧ b = p then some v else M a b
def delM (M : Mp) (s p : Int) : Mp := fun a b => if a = s ∧ b = p then none else M a b
def noM : Mp := fun _ _ => none
/-- What is known of a map's type. -/
structure Mt (P : Program) (t k e : TypeId) : Prop where
  ty : P.underlying t = some (.map k e)
  str : ∃ fs, P.underlying k = some (.struct fs)
  check : ∀ w em s p, (Instr.checkKey em 10000 k (pk s p)).run P w = .ok () w
  eq : ∀ w s p s' p', (Op.equal k (pk s p) (pk s' p')).run P w = .ok (decide (s = s') && decide (p = p')) w
  zero : ∀ w, (zeroValue e).run P w = .ok (bv 0 false) w
theorem Mt.asking {P : Program} {t k e : TypeId} (h : Mt P t k e) (w : World) (s p : Int) : ∀ (es : List MapEntry) (i : Nat), (∀ x ∈ es, ∃ s' p', x.key = pk s' p') →
    ((Instr.findAsking k (pk s p) es i).run P w = .ok none w ∧ ∀ x ∈ es, x.key ≠ pk s p) ∨ ∃ j x, (Instr.findAsking k (pk s p) es i).run P w = .ok (some (i + j, x.val)) w ∧ es[j]? = some x ∧ x.key = pk s p
  | [], i, _ => .inl ⟨by simp [Instr.findAsking, Sem.run_pure], fun x hx => by cases hx⟩
  | y :: r, i, hk => by
    obtain ⟨s', p', hy⟩ := hk y List.mem_cons_self
    have he := h.eq w s p s' p'
    by_cases hc : s = s' ∧ p = p'
    · refine .inr ⟨0, y, ?_, rfl, by rw [hy, hc.1, hc.2]⟩
      simp only [Instr.findAsking, Sem.run_bind, hy, he, Result.andThen]
      simp [hc.1, hc.2, Sem.run_pure]
    · have hf : (decide (s = s') && decide (p = p')) = false := by
        by_cases h1 : s = s'
        · rw [decide_eq_false (fun h2 => hc ⟨h1, h2⟩), Bool.and_false]
        · rw [decide_eq_false h1, Bool.false_and]
      have hrun : (Instr.findAsking k (pk s p) (y :: r) i).run P w = (Instr.findAsking k (pk s p) r (i + 1)).run P w := by
        simp only [Instr.findAsking, Sem.run_bind, hy, he, Result.andThen, hf]
        simp
      rw [hrun]
      rcases h.asking w s p r (i + 1) (fun x hx => hk x (List.mem_cons_of_mem _ hx)) with ⟨h1, h2⟩ | ⟨j, x, h1, h2, h3⟩
      · refine .inl ⟨h1, fun x hx => ?_⟩
        rcases List.mem_cons.1 hx with rfl | hx
        · rw [hy]; exact fun e1 => hc (by have := pk_inj.1 e1; exact ⟨this.1.symm, this.2.symm⟩)
        · exact h2 x hx
      · exact .inr ⟨j + 1, x, by rw [h1, show i + 1 + j = i + (j + 1) by omega], by simpa using h2, h3⟩
theorem Mt.find {P : Program} {t k e : TypeId} (h : Mt P t k e) (w : World) (s p : Int) (es : List MapEntry) (hk : ∀ x ∈ es, ∃ s' p', x.key = pk s' p') :
    ((Instr.findKey k (pk s p) es).run P w = .ok none w ∧ ∀ x ∈ es, x.key ≠ pk s p) ∨ ∃ j x, (Instr.findKey k (pk s p) es).run P w = .ok (some (j, x.val)) w ∧ es[j]? = some x ∧ x.key = pk s p := by
  obtain ⟨fs, hfs⟩ := h.str
  cases es with
  | nil => exact .inl ⟨by simp [Instr.findKey, run_underlying hfs, Instr.findNow, Sem.run_pure], fun x hx => by cases hx⟩
  | cons y r =>
    have hn : Instr.findNow (.struct fs) (pk s p) (y :: r) 0 = none := by simp [Instr.findNow, Instr.sameNow]
    have hrun : (Instr.findKey k (pk s p) (y :: r)).run P w = (Instr.findAsking k (pk s p) (y :: r)).run P w := by
      simp [Instr.findKey, run_underlying hfs, hn, Result.andThen]
    rw [hrun]
    rcases h.asking w s p (y :: r) 0 hk with h1 | ⟨j, x, h1, h2, h3⟩
    · exact .inl h1
    · exact .inr ⟨j, x, by rw [h1, Nat.zero_add], h2, h3⟩
theorem stays (P : Program) (w : World) (s p : Int) : (Instr.keyThatStays (pk s p) (pk s p)).run P w = .ok (pk s p) w := by
  have : Instr.sameBits 10000 (pk s p) (pk s p) = true := by
    show Instr.sameBits (9999 + 1) (.agg #[.int .i64 s, .int .i64 p]) (.agg #[.int .i64 s, .int .i64 p]) = true
    simp [Instr.sameBits]
  simp [Instr.keyThatStays, this, Sem.run_pure]
/-- These entries are this map. -/
structure Mok (es : Array MapEntry) (clock : Nat) (M : Mp) : Prop where
  st : Stamped es clock
  to : ∀ x ∈ es.toList, ∃ s p f w, x.key = pk s p ∧ x.val = bv f w ∧ M s p = some (f, w)
  fro : ∀ s p, M s p ≠ none → ∃ x ∈ es.toList, x.key = pk s p
theorem Mok.keys {es : Array MapEntry} {clock : Nat} {M : Mp} (h : Mok es clock M) : ∀ x ∈ es.toList, ∃ s' p', x.key = pk s' p' := fun x hx => by
  obtain ⟨s, p, _, _, hk, _⟩ := h.to x hx
  exact ⟨s, p, hk⟩
theorem Mok.val {es : Array MapEntry} {clock : Nat} {M : Mp} (h : Mok es clock M) {x : MapEntry} (hx : x ∈ es.toList) {s p : Int} (hk : x.key = pk s p) : ∃ f w, x.val = bv f w ∧ M s p = some (f, w) := by
  obtain ⟨s', p', f, w, h1, h2, h3⟩ := h.to x hx
  obtain ⟨rfl, rfl⟩ := pk_inj.1 (hk.symm.trans h1)
  exact ⟨f, w, h2, h3⟩
theorem Mok.not {es : Array MapEntry} {clock : Nat} {M : Mp} (h : Mok es clock M) {s p : Int} (hk : ∀ x ∈ es.toList, x.key ≠ pk s p) : M s p = none := Classical.byContradiction fun e => by
  obtain ⟨x, hx, hxk⟩ := h.fro s p e
  exact hk x hx hxk
def mpc (b : Nat) (M : Mp) : Chunk where
  foot := fun k => k = b
  holds := fun w => ∃ es clock, w.heap[b]? = some (.map es clock) ∧ Mok es clock M
  loc := fun w w' h ⟨es, clock, hb, hm⟩ => ⟨es, clock, (h b rfl).trans hb, hm⟩
  lives := fun w k ⟨es, clock, hb, hm⟩ hk => by
    subst hk
    exact (Array.getElem?_eq_some_iff.1 hb).1
theorem Mok.lookup {P : Program} {t k e : TypeId} (T : Mt P t k e) {w : World} {b : Nat} {es : Array MapEntry} {clock : Nat} {M : Mp} (hb : w.heap[b]? = some (.map es clock)) (h : Mok es clock M) (s p : Int) :
    (∃ f x, M s p = some (f, x) ∧ (Instr.lookup t (.map (some b)) (pk s p) true).run P w = .ok (.tuple #[bv f x, .bool true]) w) ∨ (M s p = none ∧ (Instr.lookup t (.map (some b)) (pk s p) true).run P w = .ok (.tuple #[bv 0 false, .bool false]) w) := by
  rcases T.find w s p es.toList h.keys with ⟨h1, h2⟩ | ⟨j, x, h1, h2, h3⟩
  · refine .inr ⟨h.not h2, ?_⟩
    simp [Instr.lookup, run_underlying T.ty, MapKept.run_getObj_map hb, T.check, h1, T.zero, Result.andThen, Sem.run_pure]
  · obtain ⟨f, y, h4, h5⟩ := h.val (List.mem_of_getElem? h2) h3
    refine .inl ⟨f, y, h5, ?_⟩
    simp [Instr.lookup, run_underlying T.ty, MapKept.run_getObj_map hb, T.check, h1, h4, Result.andThen, Sem.run_pure]
theorem Mok.update {P : Program} {t k e : TypeId} (T : Mt P t k e) {w : World} {b : Nat} {es : Array MapEntry} {clock : Nat} {M : Mp} (hb : w.heap[b]? = some (.map es clock)) (h : Mok es clock M) (s p f : Int) (x : Bool) :
    ∃ es' clock', (Instr.mapUpdate t (.map (some b)) (pk s p) (bv f x)).run P w = .ok () (setBlock w b (.map es' clock')) ∧ Mok es' clock' (upM M s p (f, x)) := by
  rcases T.find w s p es.toList h.keys with ⟨h1, h2⟩ | ⟨j, y, h1, h2, h3⟩
  · refine ⟨es.push ⟨pk s p, bv f x, clock⟩, clock + 1, ?_, stamped_push h.st h2, fun z hz => ?_, fun a c hac => ?_⟩
    · simp [Instr.mapUpdate, run_underlying T.ty, MapKept.run_getObj_map hb, T.check, h1, MapKept.run_setObj_map _ hb, Result.andThen, setBlock]
    · rw [Array.toList_push, List.mem_append, List.mem_singleton] at hz
      rcases hz with hz | rfl
      · obtain ⟨a, c, g, y, e1, e2, e3⟩ := h.to z hz
        refine ⟨a, c, g, y, e1, e2, ?_⟩
        unfold upM
        rw [if_neg (fun e => h2 z hz (by rw [e1, e.1, e.2])), e3]
      · exact ⟨s, p, f, x, rfl, rfl, by unfold upM; rw [if_pos ⟨rfl, rfl⟩]⟩
    · rw [Array.toList_push]
      by_cases e : a = s ∧ c = p
      · exact ⟨_, List.mem_append_right _ (List.mem_singleton.2 rfl), by rw [e.1, e.2]⟩
      · unfold upM at hac
        rw [if_neg e] at hac
        obtain ⟨z, hz, hzk⟩ := h.fro a c hac
        exact ⟨z, List.mem_append_left _ hz, hzk⟩
  · have hj : es[j]? = some y := by simpa using h2
    have hlist : (es.modify j (fun e' => { e' with key := pk s p, val := bv f x })).toList = es.toList.set j { y with key := pk s p, val := bv f x } := by rw [Array.toList_modify, ChangeMaps.modify_eq_set _ _ _ _ h2]
    have hst := (stamped_iff es clock).1 h.st
    have who : ∀ z ∈ es.toList.set j { y with key := pk s p, val := bv f x }, z = { y with key := pk s p, val := bv f x } ∨ (z ∈ es.toList ∧ z.key ≠ pk s p) := by
      intro z hz
      obtain ⟨i, hi, ez⟩ := List.getElem_of_mem hz
      rw [List.getElem_set] at ez
      split at ez
      · exact .inl ez.symm
      · rename_i hne
        have hi' : i < es.toList.length := by simpa using hi
        have hjl := (List.getElem?_eq_some_iff.1 h2).1
        refine .inr ⟨ez ▸ List.getElem_mem hi', fun e1 => hne ?_⟩
        have hp := List.pairwise_iff_getElem.1 hst.2.2
        have ey : es.toList[j] = y := (List.getElem?_eq_some_iff.1 h2).2
        rcases Nat.lt_trichotomy i j with hl | rfl | hl
        · exact absurd (by rw [ez, e1, ey, h3]) (hp i j hi' hjl hl)
        · rfl
        · exact absurd (by rw [ez, e1, ey, h3]) (hp j i hjl hi' hl)
    refine ⟨es.modify j (fun e' => { e' with key := pk s p, val := bv f x }), clock, ?_, stamped_modify h.st _ _ (fun _ _ => rfl) (fun e' _ he' => by rw [hj] at he'; cases he'; exact h3.symm), fun z hz => ?_, fun a c hac => ?_⟩
    · simp [Instr.mapUpdate, run_underlying T.ty, MapKept.run_getObj_map hb, T.check, h1, hj, h3, stays, MapKept.run_setObj_map _ hb, Result.andThen, setBlock]
    · rw [hlist] at hz
      rcases who z hz with rfl | ⟨hz, hne⟩
      · exact ⟨s, p, f, x, rfl, rfl, by unfold upM; rw [if_pos ⟨rfl, rfl⟩]⟩
      · obtain ⟨a, c, g, y', e1, e2, e3⟩ := h.to z hz
        refine ⟨a, c, g, y', e1, e2, ?_⟩
        unfold upM
        rw [if_neg (fun e => hne (by rw [e1, e.1, e.2])), e3]
    · rw [hlist]
      have hjl := (List.getElem?_eq_some_iff.1 h2).1
      by_cases e : a = s ∧ c = p
      · exact ⟨_, List.mem_set hjl _, by rw [e.1, e.2]⟩
      · unfold upM at hac
        rw [if_neg e] at hac
        obtain ⟨z, hz, hzk⟩ := h.fro a c hac
        obtain ⟨i, hi, ez⟩ := List.getElem_of_mem hz
        refine ⟨z, ?_, hzk⟩
        have hij : j ≠ i := fun e2 => by
          subst e2
          have ey : es.toList[j] = y := (List.getElem?_eq_some_iff.1 h2).2
          rw [ez] at ey
          rw [ey, h3] at hzk
          exact e (by have := pk_inj.1 hzk; exact ⟨this.1.symm, this.2.symm⟩)
        exact List.mem_iff_getElem.2 ⟨i, by simpa using hi, by rw [List.getElem_set_ne hij]; exact ez⟩
theorem Mok.drop {P : Program} {t k e ty : TypeId} (T : Mt P t k e) {w : World} {b : Nat} {es : Array MapEntry} {clock : Nat} {M : Mp} (hb : w.heap[b]? = some (.map es clock)) (h : Mok es clock M) (s p : Int) :
    ∃ es', (Builtin.delete_ #[t, k] ty #[.map (some b), pk s p]).run P w = .ok (.tuple #[]) (setBlock w b (.map es' clock)) ∧ Mok es' clock (delM M s p) := by
  rcases T.find w s p es.toList h.keys with ⟨h1, h2⟩ | ⟨j, y, h1, h2, h3⟩
  · refine ⟨es, ?_, h.st, fun z hz => ?_, fun a c hac => ?_⟩
    · simp [Builtin.delete_, run_underlying T.ty, MapKept.run_getObj_map hb, T.check, h1, MapKept.run_setObj_map _ hb, Result.andThen, setBlock]
    · obtain ⟨a, c, g, y, e1, e2, e3⟩ := h.to z hz
      refine ⟨a, c, g, y, e1, e2, ?_⟩
      unfold delM
      rw [if_neg (fun e => h2 z hz (by rw [e1, e.1, e.2])), e3]
    · unfold delM at hac
      split at hac
      · exact absurd rfl hac
      · exact h.fro a c hac
  · have hjl : j < es.toList.length := (List.getElem?_eq_some_iff.1 h2).1
    have hjs : j < es.size := by simpa using hjl
    have hsub : (es.eraseIdxIfInBounds j).toList = es.toList.eraseIdx j := by
      unfold Array.eraseIdxIfInBounds
      rw [dif_pos hjs]
      simp
    have hst := (stamped_iff es clock).1 h.st
    have ey : es.toList[j] = y := (List.getElem?_eq_some_iff.1 h2).2
    have who : ∀ z, z ∈ es.toList.eraseIdx j ↔ (z ∈ es.toList ∧ z.key ≠ pk s p) := fun z => by
      rw [List.mem_eraseIdx_iff_getElem?]
      have hp := List.pairwise_iff_getElem.1 hst.2.2
      constructor
      · rintro ⟨i, hne, hi⟩
        have hi' := (List.getElem?_eq_some_iff.1 hi).1
        have ez := (List.getElem?_eq_some_iff.1 hi).2
        refine ⟨List.mem_of_getElem? hi, fun e1 => ?_⟩
        rcases Nat.lt_trichotomy i j with hl | rfl | hl
        · exact absurd (by rw [ez, e1, ey, h3]) (hp i j hi' hjl hl)
        · exact hne rfl
        · exact absurd (by rw [ez, e1, ey, h3]) (hp j i hjl hi' hl)
      · rintro ⟨hz, hne⟩
        obtain ⟨i, hi⟩ := List.getElem?_of_mem hz
        refine ⟨i, fun e1 => hne ?_, hi⟩
        rw [e1, h2] at hi
        cases hi
        exact h3
    refine ⟨es.eraseIdxIfInBounds j, ?_, stamped_erase h.st j, fun z hz => ?_, fun a c hac => ?_⟩
    · simp [Builtin.delete_, run_underlying T.ty, MapKept.run_getObj_map hb, T.check, h1, MapKept.run_setObj_map _ hb, Result.andThen, setBlock]
    · rw [hsub] at hz
      obtain ⟨hz, hne⟩ := (who z).1 hz
      obtain ⟨a, c, g, y', e1, e2, e3⟩ := h.to z hz
      refine ⟨a, c, g, y', e1, e2, ?_⟩
      unfold delM
      rw [if_neg (fun e => hne (by rw [e1, e.1, e.2])), e3]
    · unfold delM at hac
      split at hac
      · exact absurd rfl hac
      · rename_i hne
        obtain ⟨z, hz, hzk⟩ := h.fro a c hac
        rw [hsub]
        exact ⟨z, (who z).2 ⟨hz, fun e1 => hne (by rw [hzk] at e1; exact pk_inj.1 e1)⟩, hzk⟩
end Go.Proofs.Ytnckabgaichkkaa.Eng
