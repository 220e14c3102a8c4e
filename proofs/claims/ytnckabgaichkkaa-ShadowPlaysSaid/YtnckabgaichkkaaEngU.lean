/-
A region that draws its order, walked in an order of ours, with new blocks beside calls: all but the last operations read, make new blocks, whose places no other of them looks at, and, in an order, turn some blocks; the last ones stand in order behind.
-/
import Derived.Test.YtnckabgaichkkaaEng1
namespace Go.Proofs.Ytnckabgaichkkaa.Eng
set_option linter.unusedVariables false
set_option linter.unusedSimpArgs false
open Go

section
variable {P : Program} {ops : Array Oper} {B : Base} {hp : List Chunk}
abbrev News := List (Nat × (Nat → Chunk))
def newPtr (g : Nat) : Value := .pointer (some ⟨g, 0, none⟩)
/-- An operation that makes a new block, whatever else there is. -/
def MakesNew (P : Program) (B : Base) (hp : List Chunk) (o : Oper) (a : Act) (mk : Nat → Chunk) : Prop :=
  ∀ X w, St B w (X ++ hp) → ∃ w', (execOp a.eval o).run P w = .ok (.value (newPtr w.heap.size)) w' ∧ St B w' (mk w.heap.size :: (X ++ hp))
/-- What is done in an order ('el': what yields one of these slots, and what yields nothing); which new blocks are filled by a store in the region ('il': their slots). -/
structure Ord where
  el : List Nat
  il : List Nat
def isEl (el : Ord) (o : Oper) : Bool := match o.dst with
  | some d => el.el.contains d
  | none => true
def iniOf (el : Ord) (o : Oper) : Option Nat := match o.op with
  | .store _ (.tmp d) _ => if el.il.contains d then some d else none
  | _ => none
theorem iniOf_none {el : Ord} {o : Oper} (h : cls o.op ≠ .eff) : iniOf el o = none := by
  unfold iniOf
  split
  · rename_i h1
    rw [h1] at h
    exact absurd rfl h
  · rfl
def getN (news : News) (d : Nat) : Option (Nat → Chunk) := (news.find? fun p => p.1 == d).map (·.2)
def setN (news : News) (d : Nat) (mk : Nat → Chunk) : News := news.map fun p => bif p.1 == d then (d, mk) else p
/-- A store that fills a new block. -/
def Fills (P : Program) (B : Base) (hp : List Chunk) (o : Oper) (a : Act) (d : Nat) (mk mk' : Nat → Chunk) : Prop :=
  d < a.tmps.size ∧ ∀ g X w, St B w (mk g :: (X ++ hp)) → ∃ w', (execOp (a.put (some d) (newPtr g)).eval o).run P w = .ok .skip w' ∧ St B w' (mk' g :: (X ++ hp))
/-- One operation, with whatever value it yields. -/
def effOne (P : Program) (o : Oper) (a : Act) (Q : Value → World → Prop) (w : World) : Prop :=
  match (execOp a.eval o).run P w with
  | .ok (.value u) w' => Q u w'
  | .ok .skip w' => Q undef w'
  | .ok (.enter f args) w' => Calls P f args w' (fun e w'' => ∃ u, e = .returned u ∧ Q u w'')
  | _ => False
/-- Is it done in an order? -/
def ordered (el : Ord) (o : Oper) : Bool := isEl el o && !(decide (cls o.op = .new)) && (iniOf el o).isNone
def MP (P : Program) (ops : Array Oper) (el : Ord) (B : Base) (hp : List Chunk) (Fn : News → List Chunk → Act → Prop) : List Oper → News → List Chunk → Act → Prop
  | [], news, wr, a => Fn news wr a
  | o :: rest, news, wr, a =>
    if Region.wanted o (yielded ops a.tmps) then
      (if cls o.op = .new then ∃ d mk, o.dst = some d ∧ MakesNew P B hp o a mk ∧ MP P ops el B hp Fn rest (news ++ [(d, mk)]) wr a
      else match iniOf el o with
      | some d => ∃ mk mk', getN news d = some mk ∧ Fills P B hp o a d mk mk' ∧ MP P ops el B hp Fn rest (setN news d mk') wr a
      | none => if isEl el o = true then ∃ (X : Type) (ok : X → Prop) (v : X → Value) (wr' : X → List Chunk), (∀ Y w, St B w (Y ++ (wr ++ hp)) → effOne P o a (fun u w' => ∃ x, ok x ∧ u = v x ∧ St B w' (Y ++ (wr' x ++ hp))) w) ∧ ∀ x, ok x → MP P ops el B hp Fn rest news (wr' x) (a.put o.dst (v x))
      else ∃ v, (∀ X w, St B w (X ++ hp) → o.quietAt P a (fun w => St B w (X ++ hp)) w v) ∧ MP P ops el B hp Fn rest news wr (a.put o.dst v))
    else MP P ops el B hp Fn rest news wr (a.put o.dst undef)
def isNewAt (ops : Array Oper) (i : Nat) : Bool := match ops[i]? with
  | some o => decide (cls o.op = .new)
  | none => false
def isElAt (el : Ord) (ops : Array Oper) (i : Nat) : Bool := match ops[i]? with
  | some o => ordered el o
  | none => false
def iniAt (el : Ord) (ops : Array Oper) (i : Nat) : Option Nat := match ops[i]? with
  | some o => iniOf el o
  | none => none
/-- The operation at a place of the walk. -/
def at_ (π : List Nat) (q : Nat) : Nat := π.getD q 0
def ordP (ops : Array Oper) (π : List Nat) (q q' : Nat) : Bool := if q < q' then bef ops (at_ π q') (at_ π q) else bef ops (at_ π q) (at_ π q')
/-- The order of the walk: each that looks at what another writes stands before it or behind it by an edge; what is done in an order is waited for by all that stands behind it; no slot has two writers. -/
def freeB (el : Ord) (ops : Array Oper) (k : Nat) (π : List Nat) : Bool :=
  ((decide (π.Perm (List.range k)) && Region.noSelect ops) && decide (k ≤ ops.size)) &&
  (((List.range k).all fun q => (List.range k).all fun q' => q == q' || (
    ((!(isElAt el ops (at_ π q)) || !(decide (q < q'))) || bef ops (at_ π q') (at_ π q)) &&
    match dstOf ops (at_ π q) with
      | some t => (!((match ops[at_ π q']? with | some o => (namesOf ops o).contains t | none => false)) || ((!(isNewAt ops (at_ π q)) || iniAt el ops (at_ π q') == some t) && ordP ops π q q')) && (dstOf ops (at_ π q') != some t)
      | none => true)) &&
  ((List.range k).all fun q => match ops[at_ π q]? with
    | some o => ((!(decide (cls o.op = .new)) || (o.guard.isNone && !((match o.dst with | some t => (namesOf ops o).contains t | none => false)))) && o.after.all fun e => !(Region.binds .any e) || (π.take q).contains e.on) &&
      (match iniOf el o with
      | some d => ((o.guard.isNone && o.dst.isNone) && !(decide (cls o.op = .new))) && ((List.range k).any fun q' => ((decide (q' < q) && isNewAt ops (at_ π q')) && dstOf ops (at_ π q') == some d) && bef ops (at_ π q) (at_ π q')) && ((List.range k).all fun q' => q' == q || iniAt el ops (at_ π q') != some d)
      | none => true)
    | none => false)) &&
  (k == ops.size || ((Region.sinkB .any ops k && Region.chainB .any ops k) && Region.seqB .any ops (ops.size - k) k (Array.replicate k true ++ Array.replicate (ops.size - k) false)))
structure Free (el : Ord) (ops : Array Oper) (k : Nat) (π : List Nat) : Prop where
  perm : π.Perm (List.range k)
  sel : Region.noSelect ops = true
  le : k ≤ ops.size
  wait : ∀ q q', q < q' → q' < k → isElAt el ops (at_ π q) = true → bef ops (at_ π q') (at_ π q) = true
  names : ∀ q q' o t, q < k → q' < k → ops[at_ π q']? = some o → q ≠ q' → dstOf ops (at_ π q) = some t → t ∈ namesOf ops o → (isNewAt ops (at_ π q) = false ∨ iniOf el o = some t) ∧ ordP ops π q q' = true
  uniq : ∀ q q' t, q < k → q' < k → q ≠ q' → dstOf ops (at_ π q) = some t → dstOf ops (at_ π q') ≠ some t
  new : ∀ q o, q < k → ops[at_ π q]? = some o → cls o.op = .new → o.guard = none ∧ ∀ t, o.dst = some t → t ∉ namesOf ops o
  low : ∀ q o, q < k → ops[at_ π q]? = some o → ∀ e ∈ o.after, Region.binds .any e = true → ∃ q', q' < q ∧ at_ π q' = e.on
  ini : ∀ q o d, q < k → ops[at_ π q]? = some o → iniOf el o = some d → o.guard = none ∧ o.dst = none ∧ cls o.op ≠ .new ∧ (∃ q', q' < q ∧ isNewAt ops (at_ π q') = true ∧ dstOf ops (at_ π q') = some d ∧ bef ops (at_ π q) (at_ π q') = true) ∧ ∀ q', q' < k → q' ≠ q → iniAt el ops (at_ π q') ≠ some d
  tail : k = ops.size ∨ (Region.sinkB .any ops k = true ∧ Region.chainB .any ops k = true ∧ Region.seqB .any ops (ops.size - k) k (Array.replicate k true ++ Array.replicate (ops.size - k) false) = true)
theorem freeB_spec {el : Ord} {k : Nat} {π : List Nat} (h : freeB el ops k π = true) : Free el ops k π := by
  simp only [freeB, Bool.and_eq_true, List.all_eq_true, List.mem_range, Bool.or_eq_true, beq_iff_eq, decide_eq_true_eq] at h
  obtain ⟨⟨⟨⟨h1, h2⟩, h3⟩, h4, h5⟩, h6⟩ := h
  have hl : π.length = k := by rw [h1.length_eq]; simp
  refine ⟨h1, h2, h3, fun q q' hq hq' he => ?_, fun q q' o t hq hq' ho hne hd ht => ?_, fun q q' t hq hq' hne hd => ?_, fun q o hq ho hc => ?_, fun q o hq ho e he hb => ?_, fun q o d hq ho hd => ?_, ?_⟩
  · rcases h4 q (by omega) q' hq' with h | h
    · omega
    · have h7 := h.1
      rw [he] at h7
      simpa [hq] using h7
  · rcases h4 q hq q' hq' with h | h
    · exact absurd h hne
    · have h7 := h.2
      simp only [hd, ho, Bool.and_eq_true, Bool.or_eq_true, Bool.not_eq_true', beq_iff_eq] at h7
      rcases h7.1 with h | h
      · have : (namesOf ops o).contains t = true := by simpa using ht
        rw [this] at h; cases h
      · refine ⟨?_, h.2⟩
        rcases h.1 with h | h
        · exact .inl h
        · exact .inr (by simpa [iniAt, ho] using h)
  · rcases h4 q hq q' hq' with h | h
    · exact absurd h hne
    · have h7 := h.2
      simp only [hd, Bool.and_eq_true] at h7
      simpa using h7.2
  · have := h5 q hq
    simp only [ho, Bool.and_eq_true, Bool.or_eq_true] at this
    rcases this.1.1 with h | h
    · simp [hc] at h
    · refine ⟨by simpa using h.1, fun t ht hm => ?_⟩
      have h2 := h.2
      simp only [ht, Bool.not_eq_true'] at h2
      have : (namesOf ops o).contains t = true := by simpa using hm
      rw [this] at h2; cases h2
  · have := h5 q hq
    simp only [ho, Bool.and_eq_true, Array.all_eq_true_iff_forall_mem] at this
    have := this.1.2 e he
    rw [hb] at this
    have h7 : e.on ∈ π.take q := by simpa using this
    obtain ⟨q', hq', hx⟩ := List.mem_iff_getElem.1 h7
    simp only [List.length_take] at hq'
    refine ⟨q', by omega, ?_⟩
    simp only [at_, List.getD_eq_getElem?_getD]
    rw [List.getElem_take] at hx
    rw [List.getElem?_eq_getElem (by omega), Option.getD_some, hx]
  · have := h5 q hq
    simp only [ho, hd, Bool.and_eq_true, List.all_eq_true, List.any_eq_true, List.mem_range, Bool.or_eq_true, beq_iff_eq, decide_eq_true_eq, bne_iff_ne, Bool.not_eq_true', decide_eq_false_iff_not] at this
    obtain ⟨_, ⟨⟨⟨h7, h8⟩, h9⟩, q', hq', ⟨⟨h10, h11⟩, h12⟩, h13⟩, h14⟩ := this
    refine ⟨by simpa using h7, by simpa using h8, h9, ⟨q', h10, h11, h12, h13⟩, fun q'' hq'' hne => ?_⟩
    rcases h14 q'' hq'' with h | h
    · exact absurd h hne
    · exact h
  · rcases h6 with h | ⟨⟨h, h'⟩, h''⟩
    · exact .inl h
    · exact .inr ⟨h, h', h''⟩

/-- What the walk in this order found. -/
structure MPStep (P : Program) (ops : Array Oper) (el : Ord) (B : Base) (hp : List Chunk) (o : Oper) (a a' : Act) (v : Value) (mk : Nat → Chunk) (nw nw' : News) : Prop where
  old : cls o.op ≠ .new → iniOf el o = none → isEl el o = false → a' = a.put o.dst v ∧ nw' = nw ∧ ((Region.wanted o (yielded ops a.tmps) = false ∧ v = undef) ∨ (Region.wanted o (yielded ops a.tmps) = true ∧ ∀ X w, St B w (X ++ hp) → o.quietAt P a (fun w => St B w (X ++ hp)) w v))
  eff : cls o.op ≠ .new → iniOf el o = none → isEl el o = true → a' = a.put o.dst v ∧ nw' = nw
  new : cls o.op = .new → o.guard = none → a' = a ∧ MakesNew P B hp o a mk ∧ ∃ d, o.dst = some d ∧ nw' = nw ++ [(d, mk)]
  ini : ∀ d, cls o.op ≠ .new → iniOf el o = some d → o.guard = none → o.dst = none → a' = a ∧ nw' = setN nw d mk ∧ ∃ mk0, getN nw d = some mk0 ∧ Fills P B hp o a d mk0 mk
/-- The walk up to the next operation that is done in an order. -/
theorem MP.seg {el : Ord} {Fn : News → List Chunk → Act → Prop} : ∀ (l : List Oper) (i : Nat) (nw : News) (wr : List Chunk) (a : Act), (∀ o ∈ l, cls o.op = .new → o.guard = none) → (∀ o ∈ l, ∀ d, iniOf el o = some d → o.guard = none) → MP P ops el B hp Fn l nw wr a →
    ∃ (n : Nat) (A : Nat → Act) (V : Nat → Value) (K : Nat → Nat → Chunk) (NW : Nat → News), n ≤ l.length ∧ A i = a ∧ NW i = nw ∧
    (∀ j o, j < n → l[j]? = some o → ordered el o = false ∧ MPStep P ops el B hp o (A (i + j)) (A (i + j + 1)) (V (i + j)) (K (i + j)) (NW (i + j)) (NW (i + j + 1))) ∧
    MP P ops el B hp Fn (l.drop n) (NW (i + n)) wr (A (i + n)) ∧ (n = l.length ∨ ∃ o, l[n]? = some o ∧ ordered el o = true) := by
  intro l
  induction l with
  | nil => intro i nw wr a _ _ h; exact ⟨0, fun _ => a, fun _ => undef, fun _ _ => cells 0 0 [], fun _ => nw, Nat.le_refl _, rfl, rfl, fun j o hj => by omega, by simpa using h, .inl rfl⟩
  | cons o rest ih =>
    intro i nw wr a hg hgi h
    by_cases hoe : ordered el o = true
    · exact ⟨0, fun _ => a, fun _ => undef, fun _ _ => cells 0 0 [], fun _ => nw, Nat.zero_le _, rfl, rfl, fun j o hj => by omega, by simpa using h, .inr ⟨o, rfl, hoe⟩⟩
    have hoe' : ordered el o = false := by simpa using hoe
    have key : ∃ v mk a' nw', MP P ops el B hp Fn rest nw' wr a' ∧ MPStep P ops el B hp o a a' v mk nw nw' := by
      unfold MP at h
      by_cases hc : cls o.op = .new
      · have hgo := hg o (by simp) hc
        rw [if_pos (by simp [Region.wanted, hgo]), if_pos hc] at h
        obtain ⟨d, mk, hd, hmk, h⟩ := h
        exact ⟨undef, mk, a, _, h, ⟨fun h => absurd hc h, fun h => absurd hc h, fun _ _ => ⟨rfl, hmk, d, hd, rfl⟩, fun d h => absurd hc h⟩⟩
      · cases hin : iniOf el o with
        | some d =>
          have hgo := hgi o (by simp) d hin
          rw [if_pos (by simp [Region.wanted, hgo]), if_neg hc, hin] at h
          obtain ⟨mk, mk', hget, hfill, h⟩ := h
          exact ⟨undef, mk', a, _, h, ⟨fun _ h => (by rw [hin] at h; cases h), fun _ h => (by rw [hin] at h; cases h), fun h => absurd h hc, fun d' _ hd' _ _ => by
            obtain rfl := Option.some.inj (hin.symm.trans hd')
            exact ⟨rfl, rfl, mk, hget, hfill⟩⟩⟩
        | none =>
          have he : isEl el o = false := by
            simp only [ordered, hin, Option.isNone_none, Bool.and_true] at hoe'
            simpa [hc] using hoe'
          by_cases hw : Region.wanted o (yielded ops a.tmps) = true
          · rw [if_pos hw, if_neg hc, hin] at h
            simp only [he, Bool.false_eq_true, if_false] at h
            obtain ⟨v, hv, h⟩ := h
            exact ⟨v, fun _ => cells 0 0 [], _, _, h, ⟨fun _ _ _ => ⟨rfl, rfl, .inr ⟨hw, hv⟩⟩, fun _ _ h => (by rw [he] at h; cases h), fun h => absurd h hc, fun d _ h => by rw [hin] at h; cases h⟩⟩
          · rw [if_neg hw] at h
            exact ⟨undef, fun _ => cells 0 0 [], _, _, h, ⟨fun _ _ _ => ⟨rfl, rfl, .inl ⟨by simpa using hw, rfl⟩⟩, fun _ _ h => (by rw [he] at h; cases h), fun h => absurd h hc, fun d _ h => by rw [hin] at h; cases h⟩⟩
    obtain ⟨v, mk, a', nw', h2, hs⟩ := key
    obtain ⟨n, A, V, K, NW, hn, hA, hN, hst, hfin, hend⟩ := ih (i + 1) nw' wr a' (fun o ho => hg o (List.mem_cons_of_mem _ ho)) (fun o ho => hgi o (List.mem_cons_of_mem _ ho)) h2
    have ne : ∀ j, i + 1 + j ≠ i := fun j => by omega
    refine ⟨n + 1, fun k => if k = i then a else A k, fun k => if k = i then v else V k, fun k => if k = i then mk else K k, fun k => if k = i then nw else NW k, by simpa using hn, by simp, by simp, fun j o' hj ho => ?_, ?_, ?_⟩
    · cases j with
      | zero =>
        simp at ho
        subst ho
        refine ⟨hoe', ?_⟩
        simp only [Nat.add_zero, if_true, show i + 1 ≠ i by omega, if_false, hA, hN]
        exact hs
      | succ j =>
        have := hst j o' (by omega) (by simpa using ho)
        simp only [show i + (j + 1) = i + 1 + j by omega, show i + 1 + j + 1 ≠ i by omega, ne j, if_false]
        exact this
    · simp only [show i + (n + 1) = i + 1 + n by omega, ne, if_false, List.drop_succ_cons]
      exact hfin
    · rcases hend with h | ⟨o', h, h'⟩
      · exact .inl (by simp [h])
      · exact .inr ⟨o', by simpa using h, h'⟩

/-- The store that fills the new block of the operation at place q. -/
def iniIx (el : Ord) (ops : Array Oper) (π : List Nat) (k q : Nat) : Option Nat := match dstOf ops (at_ π q) with
  | some d => (List.range k).find? fun s => iniAt el ops (at_ π s) == some d
  | none => none
/-- What stands in its new block. -/
def CH (el : Ord) (ops : Array Oper) (π : List Nat) (k : Nat) (K : Nat → Nat → Chunk) (done : Nat → Bool) (q : Nat) : Nat → Chunk := match iniIx el ops π k q with
  | some s => if done s = true then K s else K q
  | none => K q
section
variable {el : Ord} {π : List Nat} {k : Nat}
theorem CH_congr {K : Nat → Nat → Chunk} {d d' : Nat → Bool} {q : Nat} (h : ∀ s, iniIx el ops π k q = some s → d s = d' s) : CH el ops π k K d q = CH el ops π k K d' q := by
  unfold CH
  cases e : iniIx el ops π k q with
  | none => rfl
  | some s => simp only [h s e]
theorem iniIx_some {q s : Nat} (h : iniIx el ops π k q = some s) : s < k ∧ ∃ d, dstOf ops (at_ π q) = some d ∧ iniAt el ops (at_ π s) = some d := by
  unfold iniIx at h
  cases hd : dstOf ops (at_ π q) with
  | none => simp [hd] at h
  | some d =>
    simp only [hd] at h
    exact ⟨List.mem_range.1 (List.mem_of_find?_eq_some h), d, rfl, by simpa using List.find?_some h⟩
theorem iniIx_eq {q s d : Nat} (hd : dstOf ops (at_ π q) = some d) (hs : s < k) (hi : iniAt el ops (at_ π s) = some d) (hu : ∀ j', j' < k → j' ≠ s → iniAt el ops (at_ π j') ≠ some d) : iniIx el ops π k q = some s := by
  unfold iniIx
  simp only [hd]
  cases hf : (List.range k).find? fun s => iniAt el ops (at_ π s) == some d with
  | none =>
    have := List.find?_eq_none.1 hf s (List.mem_range.2 hs)
    simp [hi] at this
  | some s' =>
    have h1 := List.mem_range.1 (List.mem_of_find?_eq_some hf)
    have h2 : iniAt el ops (at_ π s') = some d := by simpa using List.find?_some hf
    by_cases e : s' = s
    · rw [e]
    · exact absurd h2 (hu s' h1 e)
variable (hF : Free el ops k π)
include hF
theorem at_lt {q : Nat} (h : q < k) : at_ π q < k := by
  have hl : π.length = k := by rw [hF.perm.length_eq]; simp
  have : at_ π q ∈ π := by
    simp only [at_, List.getD_eq_getElem?_getD]
    rw [List.getElem?_eq_getElem (by omega), Option.getD_some]
    exact List.getElem_mem _
  exact List.mem_range.1 (hF.perm.mem_iff.1 this)
theorem at_inj {q q' : Nat} (h : q < k) (h' : q' < k) (he : at_ π q = at_ π q') : q = q' := by
  have hl : π.length = k := by rw [hF.perm.length_eq]; simp
  have hnd : π.Nodup := hF.perm.nodup_iff.2 List.nodup_range
  simp only [at_, List.getD_eq_getElem?_getD] at he
  rw [List.getElem?_eq_getElem (by omega), List.getElem?_eq_getElem (by omega), Option.getD_some, Option.getD_some] at he
  exact (List.getElem_inj hnd).1 he
theorem at_onto {i : Nat} (h : i < k) : ∃ q, q < k ∧ at_ π q = i := by
  have hl : π.length = k := by rw [hF.perm.length_eq]; simp
  have hm : i ∈ π := hF.perm.mem_iff.2 (List.mem_range.2 h)
  obtain ⟨q, hq, hx⟩ := List.mem_iff_getElem.1 hm
  refine ⟨q, by omega, ?_⟩
  simp only [at_, List.getD_eq_getElem?_getD]
  rw [List.getElem?_eq_getElem hq, Option.getD_some, hx]
theorem op_at {q : Nat} (h : q < k) : ∃ o, ops[at_ π q]? = some o := ⟨_, Array.getElem?_eq_getElem (by have := at_lt hF h; have := hF.le; omega)⟩
omit hF
theorem dir_spec {j i : Nat} {o : Oper} (ho : ops[j]? = some o) (h : dir ops j i = true) : ∃ e ∈ o.after, Region.binds .any e = true ∧ e.on = i := by
  unfold dir at h
  simp only [ho] at h
  obtain ⟨e, he, hb⟩ := Array.any_eq_true'.1 h
  simp only [Bool.and_eq_true, beq_iff_eq] at hb
  exact ⟨e, he, hb.1, hb.2⟩
/-- What holds whatever has been carried out so far: the walk has come to place p. -/
structure UJ (P : Program) (el : Ord) (B : Base) (hp : List Chunk) (ops : Array Oper) (π : List Nat) (k : Nat) (Fn : News → List Chunk → Act → Prop) (a0 : Act) (p : Nat) (l : List Oper) (A : Nat → Act) (V : Nat → Value) (K : Nat → Nat → Chunk) (NW : Nat → News) (wr : List Chunk) (listed : Array Bool) (a : Act) (w : World) : Prop where
  le : p ≤ k
  stop : p = k ∨ isElAt el ops (at_ π p) = true
  A0 : A 0 = a0
  N0 : NW 0 = []
  rest : MP P ops el B hp Fn (l.drop p) (NW p) wr (A p)
  steps : ∀ q o, q < p → ops[at_ π q]? = some o → MPStep P ops el B hp o (A q) (A (q + 1)) (V q) (K q) (NW q) (NW (q + 1))
  ahead : ∀ q, p ≤ q → q < k → listed.getD (at_ π q) false = false
  effs : ∀ q, q < p → isElAt el ops (at_ π q) = true → listed.getD (at_ π q) false = true
  inv : HeadInv .any ops k listed
  asize : a.tmps.size = a0.tmps.size
  defers : a.defers = a0.defers
  done : ∀ q t, q < p → isNewAt ops (at_ π q) = false → dstOf ops (at_ π q) = some t → listed.getD (at_ π q) false = true → a.tmps[t]? = (A (q + 1)).tmps[t]?
  todo : ∀ t, (∀ q, q < k → dstOf ops (at_ π q) = some t → listed.getD (at_ π q) false = false) → a.tmps[t]? = a0.tmps[t]?
  news : ∃ (N : List Nat) (γ : Nat → Nat), N.Nodup ∧ (∀ q, q ∈ N ↔ q < k ∧ isNewAt ops (at_ π q) = true ∧ listed.getD (at_ π q) false = true) ∧ (∀ q ∈ N, ∀ t, dstOf ops (at_ π q) = some t → t < a0.tmps.size → a.tmps[t]? = some (newPtr (γ q))) ∧ St B w (N.map (fun q => CH el ops π k K (fun s => listed.getD (at_ π s) false) q (γ q)) ++ (wr ++ hp))

section
variable {Fn : News → List Chunk → Act → Prop} {a0 : Act} {p : Nat} {l : List Oper} {A : Nat → Act} {V : Nat → Value} {K : Nat → Nat → Chunk} {NW : Nat → News} {wr : List Chunk} {listed : Array Bool} {a : Act} {w : World}
variable (hF : Free el ops k π) (hpk : p ≤ k) (hst : ∀ q o, q < p → ops[at_ π q]? = some o → MPStep P ops el B hp o (A q) (A (q + 1)) (V q) (K q) (NW q) (NW (q + 1)))
include hF hpk hst
theorem UA_put {q : Nat} {o : Oper} (hq : q < p) (ho : ops[at_ π q]? = some o) (hc : cls o.op ≠ .new) : A (q + 1) = (A q).put o.dst (V q) := by
  have hs := hst q o hq ho
  cases hin : iniOf el o with
  | some d =>
    have h1 := hF.ini q o d (by omega) ho hin
    rw [(hs.ini d hc hin h1.1 h1.2.1).1, h1.2.1]
    rfl
  | none =>
    cases he : isEl el o with
    | false => exact (hs.old hc hin he).1
    | true => exact (hs.eff hc hin he).1
theorem UA_step {q : Nat} {o : Oper} (hq : q < p) (ho : ops[at_ π q]? = some o) : (A (q + 1)).tmps.size = (A q).tmps.size ∧ (A (q + 1)).defers = (A q).defers ∧ ∀ t, (isNewAt ops (at_ π q) = true ∨ dstOf ops (at_ π q) ≠ some t) → (A (q + 1)).tmps[t]? = (A q).tmps[t]? := by
  have hs := hst q o hq ho
  by_cases hc : cls o.op = .new
  · have h1 := hF.new q o (by omega) ho hc
    rw [(hs.new hc h1.1).1]
    exact ⟨rfl, rfl, fun _ _ => rfl⟩
  · rw [UA_put hF hpk hst hq ho hc]
    refine ⟨put_size _ _ _, put_defers _ _ _, fun t ht => put_ne _ (fun hd => ?_) _⟩
    rcases ht with h | h
    · simp [isNewAt, ho, hc] at h
    · exact h (by simp [dstOf, ho, hd])
theorem UA_size {m : Nat} (hm : m ≤ p) : (A m).tmps.size = (A 0).tmps.size ∧ (A m).defers = (A 0).defers := by
  induction m with
  | zero => exact ⟨rfl, rfl⟩
  | succ m ih =>
    obtain ⟨h1, h2⟩ := ih (by omega)
    obtain ⟨o, ho⟩ := op_at hF (q := m) (by omega)
    have hs := UA_step hF hpk hst (q := m) (by omega) ho
    exact ⟨hs.1.trans h1, hs.2.1.trans h2⟩
theorem UA_keep {t : Tmp} {i m : Nat} (him : i ≤ m) (hm : m ≤ p) (h : ∀ j, i ≤ j → j < m → isNewAt ops (at_ π j) = true ∨ dstOf ops (at_ π j) ≠ some t) : (A m).tmps[t]? = (A i).tmps[t]? := by
  induction m with
  | zero => have : i = 0 := by omega
            subst this; rfl
  | succ m ih =>
    by_cases e : i = m + 1
    · subst e; rfl
    · obtain ⟨o, ho⟩ := op_at hF (q := m) (by omega)
      have hs := UA_step hF hpk hst (q := m) (by omega) ho
      rw [hs.2.2 t (h m (by omega) (by omega))]
      exact ih (by omega) (by omega) fun j h1 h2 => h j h1 (by omega)
/-- The new blocks told by the walk, at each of its steps. -/
theorem NW_eq (h0 : NW 0 = []) {m : Nat} (hm : m ≤ p) : NW m = ((List.range m).filter fun q => isNewAt ops (at_ π q)).map fun q => ((dstOf ops (at_ π q)).getD 0, CH el ops π k K (fun s => decide (s < m)) q) := by
  induction m with
  | zero => simpa using h0
  | succ m ih =>
    have ih := ih (by omega)
    have hmk : m < k := by omega
    obtain ⟨o, ho⟩ := op_at hF (q := m) hmk
    have hs := hst m o (by omega) ho
    rw [List.range_succ, List.filter_append, List.map_append]
    have same : iniAt el ops (at_ π m) = none → ∀ q, CH el ops π k K (fun s => decide (s < m + 1)) q = CH el ops π k K (fun s => decide (s < m)) q := fun hn q => CH_congr fun s hs' => by
      obtain ⟨h1, d, h2, h3⟩ := iniIx_some hs'
      have : s ≠ m := fun e => by subst e; rw [hn] at h3; cases h3
      simp only [decide_eq_decide]
      omega
    by_cases hc : cls o.op = .new
    · have hn : iniAt el ops (at_ π m) = none := by simp only [iniAt, ho]; exact iniOf_none (by rw [hc]; simp)
      obtain ⟨_, _, d, hd, hN⟩ := hs.new hc (hF.new m o hmk ho hc).1
      have hnn : isNewAt ops (at_ π m) = true := by simp [isNewAt, ho, hc]
      have hdm : dstOf ops (at_ π m) = some d := by simp [dstOf, ho, hd]
      rw [hN, ih]
      have e1 : List.filter (fun q => isNewAt ops (at_ π q)) [m] = [m] := by simp [hnn]
      rw [e1]
      have e2 : CH el ops π k K (fun s => decide (s < m + 1)) m = K m := by
        unfold CH
        cases e : iniIx el ops π k m with
        | none => rfl
        | some s =>
          obtain ⟨h1, d', h2, h3⟩ := iniIx_some e
          obtain ⟨os, hso⟩ := op_at hF (q := s) h1
          obtain ⟨_, _, _, ⟨i', h4, h5, h6, _⟩, _⟩ := hF.ini s os d' h1 hso (by simpa [iniAt, hso] using h3)
          have : i' = m := Classical.byContradiction fun hne => hF.uniq i' m d' (by omega) hmk hne h6 h2
          have hlt : ¬ s < m + 1 := by omega
          simp [hlt]
      simp only [List.map_cons, List.map_nil, hdm, Option.getD_some, e2]
      congr 1
      exact List.map_congr_left fun i _ => by rw [same hn i]
    · have hnn : isNewAt ops (at_ π m) = false := by simp [isNewAt, ho, hc]
      have e1 : List.filter (fun q => isNewAt ops (at_ π q)) [m] = [] := by simp [hnn]
      rw [e1, List.map_nil, List.append_nil]
      cases hin : iniOf el o with
      | none =>
        have hn : iniAt el ops (at_ π m) = none := by simp only [iniAt, ho]; exact hin
        have hN : NW (m + 1) = NW m := by
          cases he : isEl el o with
          | false => exact (hs.old hc hin he).2.1
          | true => exact (hs.eff hc hin he).2
        rw [hN, ih]
        exact List.map_congr_left fun i _ => by rw [same hn i]
      | some d =>
        obtain ⟨hg, hdn, _, ⟨i0, hi0, hi0n, hi0d, _⟩, hu⟩ := hF.ini m o d hmk ho hin
        have hia : iniAt el ops (at_ π m) = some d := by simp only [iniAt, ho]; exact hin
        rw [(hs.ini d hc hin hg hdn).2.1, ih]
        unfold setN
        rw [List.map_map]
        refine List.map_congr_left fun i hi => ?_
        have him := List.mem_range.1 (List.mem_filter.1 hi).1
        have hin' : isNewAt ops (at_ π i) = true := (List.mem_filter.1 hi).2
        simp only [Function.comp]
        by_cases hdi : dstOf ops (at_ π i) = some d
        · simp only [hdi, Option.getD_some, beq_self_eq_true, cond_true]
          have hx := iniIx_eq hdi hmk hia hu
          unfold CH
          simp [hx]
        · have hne : ((dstOf ops (at_ π i)).getD 0 == d) = false := by
            cases hdd : dstOf ops (at_ π i) with
            | none =>
              exfalso
              obtain ⟨oi, hoi⟩ := op_at hF (q := i) (by omega)
              have hci : cls oi.op = .new := by simpa [isNewAt, hoi] using hin'
              obtain ⟨_, _, d', hd', _⟩ := (hst i oi (by omega) hoi).new hci (hF.new i oi (by omega) hoi hci).1
              simp [dstOf, hoi, hd'] at hdd
            | some d' =>
              rw [hdd] at hdi
              simp only [Option.getD_some]
              cases hb : d' == d with
              | false => rfl
              | true => exact absurd (by rw [eq_of_beq hb]) hdi
          rw [hne]
          simp only [cond_false]
          rw [CH_congr (d' := fun s => decide (s < m + 1)) fun s hs' => by
            obtain ⟨h1, d', h2, h3⟩ := iniIx_some hs'
            have : s ≠ m := fun e => by
              subst e
              rw [hia] at h3
              exact hdi (by rw [h2, h3])
            simp only [decide_eq_decide]
            omega]
end
section
variable {Fn : News → List Chunk → Act → Prop} {a0 : Act} {p : Nat} {l : List Oper} {A : Nat → Act} {V : Nat → Value} {K : Nat → Nat → Chunk} {NW : Nat → News} {wr : List Chunk} {listed : Array Bool} {a : Act} {w : World}
variable (hF : Free el ops k π)
theorem UJ.closed (hJ : UJ P el B hp ops π k Fn a0 p l A V K NW wr listed a w) : ∀ j, listed.getD j false = true → ∀ i, dir ops j i = true → listed.getD i false = true := fun j hj i hi => by
  cases ho : ops[j]? with
  | none => simp [dir, ho] at hi
  | some o =>
    obtain ⟨e, he, hb, hon⟩ := dir_spec ho hi
    rw [← hon]
    exact hJ.inv.closed j o ho hj e he hb
include hF
/-- What an operation that is ready sees. -/
theorem UJ.sees (hJ : UJ P el B hp ops π k Fn a0 p l A V K NW wr listed a w) {q : Nat} {o : Oper} (hqk : q < k) (hqp : q ≤ p) (ho : ops[at_ π q]? = some o) (hun : listed.getD (at_ π q) false = false) (hdeps : ∀ i, dir ops (at_ π q) i = true → listed.getD i false = true) :
    ∀ t ∈ o.looksAt ops, iniOf el o ≠ some t → a.tmps[t]? = (A q).tmps[t]? := by
  have hcl := UJ.closed hJ
  have hord : ∀ q2, q2 < k → q2 ≠ q → ordP ops π q2 q = true → (listed.getD (at_ π q2) false = true ↔ q2 < q) := fun q2 hi hne h => by
    unfold ordP at h
    by_cases hij : q2 < q
    · rw [if_pos hij] at h
      exact ⟨fun _ => hij, fun _ => bef_listed hcl (at_ π q + 1) (at_ π q) (by omega) hdeps h⟩
    · rw [if_neg hij] at h
      refine ⟨fun hl => ?_, fun h => absurd h hij⟩
      rw [bef_listed hcl (at_ π q2 + 1) (at_ π q2) (by omega) (hcl (at_ π q2) hl) h] at hun
      cases hun
  have hkeep : ∀ {t : Tmp} {i m : Nat}, i ≤ m → m ≤ p → (∀ j, i ≤ j → j < m → isNewAt ops (at_ π j) = true ∨ dstOf ops (at_ π j) ≠ some t) → (A m).tmps[t]? = (A i).tmps[t]? := fun h1 h2 h3 => UA_keep hF hJ.le hJ.steps h1 h2 h3
  intro t ht hnt
  have hz : a0.tmps[t]? = (A 0).tmps[t]? := by rw [hJ.A0]
  by_cases hw : ∃ q2, q2 < k ∧ dstOf ops (at_ π q2) = some t
  · obtain ⟨q2, hi, hdi⟩ := hw
    have others : ∀ m, m < k → m ≠ q2 → dstOf ops (at_ π m) ≠ some t := fun m hm hne => hF.uniq q2 m t hi hm (Ne.symm hne) hdi
    by_cases hij : q2 = q
    · subst hij
      rw [hJ.todo t fun m hm hd => by
        by_cases e : m = q2
        · rw [e]; exact hun
        · exact absurd hd (others m hm e), hz]
      exact (hkeep (Nat.zero_le _) hqp fun m _ h2 => .inr (others m (by omega) (by omega))).symm
    · obtain ⟨hnn, hoo⟩ := hF.names q2 q o t hi hqk ho hij hdi ht
      have hnn := hnn.resolve_right hnt
      have h1 := hord q2 hi hij hoo
      by_cases hl : listed.getD (at_ π q2) false = true
      · have hlt := h1.1 hl
        rw [hJ.done q2 t (by omega) hnn hdi hl]
        exact (hkeep (by omega) hqp fun m h3 h4 => .inr (others m (by omega) (by omega))).symm
      · have hge : ¬ q2 < q := fun h => hl (h1.2 h)
        rw [hJ.todo t fun m hm hd => by
          by_cases e : m = q2
          · rw [e]; simpa using hl
          · exact absurd hd (others m hm e), hz]
        exact (hkeep (Nat.zero_le _) hqp fun m _ h2 => .inr (others m (by omega) (by omega))).symm
  · have hw' : ∀ i, i < k → dstOf ops (at_ π i) ≠ some t := fun i hi hd => hw ⟨i, hi, hd⟩
    rw [hJ.todo t fun i hi hd => absurd hd (hw' i hi), hz]
    exact (hkeep (Nat.zero_le _) hqp fun m _ h2 => .inr (hw' m (by omega))).symm
end

section
variable {Fn : News → List Chunk → Act → Prop} {a0 : Act} {l : List Oper}
variable (hF : Free el ops k π) (hl : ∀ q, q < k → l[q]? = ops[at_ π q]?) (hll : l.length = k)
include hF hl hll
theorem walk_guards : (∀ o ∈ l, cls o.op = .new → o.guard = none) ∧ (∀ o ∈ l, ∀ d, iniOf el o = some d → o.guard = none) := by
  refine ⟨fun o ho hc => ?_, fun o ho d hd => ?_⟩
  all_goals
    obtain ⟨q, hq⟩ := List.getElem?_of_mem ho
    have hqk : q < k := by have := (List.getElem?_eq_some_iff.1 hq).1; omega
    rw [hl q hqk] at hq
  · exact (hF.new q o hqk hq hc).1
  · exact (hF.ini q o d hqk hq hd).1
/-- The beginning. -/
theorem UJ.start {wr : List Chunk} {a : Act} {w : World} (h : MP P ops el B hp Fn l [] wr a) (hS : St B w (wr ++ hp)) : ∃ p A V K NW, UJ P el B hp ops π k Fn a p l A V K NW wr (Array.replicate ops.size false) a w := by
  obtain ⟨hg, hgi⟩ := walk_guards hF hl hll
  obtain ⟨n, A, V, K, NW, hn, hA, hN, hst, hfin, hend⟩ := MP.seg l 0 [] wr a hg hgi h
  simp only [Nat.zero_add] at hst hfin
  refine ⟨n, A, V, K, NW, by omega, ?_, hA, hN, hfin, fun q o hq ho => (hst q o hq (by rw [hl q (by omega)]; exact ho)).2, fun q _ _ => by rw [getD_replicate_false], fun q hq he => ?_, ⟨by simp, fun j oj hj hl => (by rw [getD_replicate_false] at hl; cases hl), fun t ht htl => (by simp [htl])⟩, rfl, rfl, fun q t hq _ hd hl => (by rw [getD_replicate_false] at hl; cases hl), fun t _ => rfl, [], fun _ => 0, by simp, fun q => by rw [getD_replicate_false]; simp, by simp, by simpa using hS⟩
  · rcases hend with h | ⟨o, ho, hoe⟩
    · exact .inl (h.trans hll)
    · right
      have hnk : n < k := by have := (List.getElem?_eq_some_iff.1 ho).1; omega
      rw [hl n hnk] at ho
      simp only [isElAt, ho]
      exact hoe
  · exfalso
    obtain ⟨o, ho⟩ := op_at hF (q := q) (by omega)
    have := (hst q o hq (by rw [hl q (by omega)]; exact ho)).1
    simp only [isElAt, ho] at he
    rw [this] at he
    cases he
/-- One that is done in an order. -/
theorem UJ.advance {p : Nat} {A : Nat → Act} {V : Nat → Value} {K : Nat → Nat → Chunk} {NW : Nat → News} {wr wr' : List Chunk} {listed : Array Bool} {a : Act} {w w' : World} {o : Oper} {v : Value} (hJ : UJ P el B hp ops π k Fn a0 p l A V K NW wr listed a w) (hpk : p < k) (ho : ops[at_ π p]? = some o) (hoe : ordered el o = true)
    (hready : at_ π p ∈ Region.ready .any ops listed) (h : MP P ops el B hp Fn (l.drop (p + 1)) (NW p) wr' ((A p).put o.dst v))
    (N0 : List Nat) (γ0 : Nat → Nat) (hN0d : N0.Nodup) (hN0m : ∀ q, q ∈ N0 ↔ q < k ∧ isNewAt ops (at_ π q) = true ∧ listed.getD (at_ π q) false = true) (hN0s : ∀ q ∈ N0, ∀ t, dstOf ops (at_ π q) = some t → t < a0.tmps.size → a.tmps[t]? = some (newPtr (γ0 q)))
    (hS0 : St B w' (N0.map (fun q => CH el ops π k K (fun s => listed.getD (at_ π s) false) q (γ0 q)) ++ (wr' ++ hp))) :
    ∃ p' A' V' K' NW', UJ P el B hp ops π k Fn a0 p' l A' V' K' NW' wr' (listed.setIfInBounds (at_ π p) true) (a.put o.dst v) w' := by
  have hc : cls o.op ≠ .new := fun hc => by simp [ordered, hc] at hoe
  have hin : iniOf el o = none := by
    simp only [ordered, Bool.and_eq_true] at hoe
    simpa using hoe.2
  have he : isEl el o = true := by
    simp only [ordered, Bool.and_eq_true] at hoe
    exact hoe.1.1
  obtain ⟨hg, hgi⟩ := walk_guards hF hl hll
  obtain ⟨n, A2, V2, K2, NW2, hn, hA, hN, hst, hfin, hend⟩ := MP.seg (l.drop (p + 1)) (p + 1) (NW p) wr' ((A p).put o.dst v) (fun o ho => hg o (List.mem_of_mem_drop ho)) (fun o ho => hgi o (List.mem_of_mem_drop ho)) h
  rw [List.length_drop, hll] at hn hend
  have hun : listed.getD (at_ π p) false = false := hJ.ahead p (Nat.le_refl _) hpk
  have hpl : at_ π p < listed.size := by rw [hJ.inv.size]; have := at_lt hF hpk; have := hF.le; omega
  have hne : ∀ q, q < k → q ≠ p → at_ π p ≠ at_ π q := fun q hq h he => h (at_inj hF hpk hq he).symm
  have hdo : dstOf ops (at_ π p) = o.dst := by simp [dstOf, ho]
  have hdrop : ∀ j, j < k - (p + 1) → (l.drop (p + 1))[j]? = ops[at_ π (p + 1 + j)]? := fun j hj => by
    rw [List.getElem?_drop, hl _ (by omega)]
  have hsz := UA_size hF hJ.le hJ.steps (Nat.le_refl p)
  have nonew : isNewAt ops (at_ π p) = false := by simp [isNewAt, ho, hc]
  have hia : iniAt el ops (at_ π p) = none := by simp only [iniAt, ho]; exact hin
  refine ⟨p + 1 + n, fun q => if q ≤ p then A q else A2 q, fun q => if q < p then V q else if q = p then v else V2 q, fun q => if q ≤ p then K q else K2 q, fun q => if q ≤ p then NW q else NW2 q, by omega, ?_, by simp [hJ.A0], by simp [hJ.N0], ?_, fun q o' hq ho' => ?_, fun q hq hqk => ?_, fun q hq hqe => ?_, hJ.inv.set hready (at_lt hF hpk), (put_size _ _ _).trans hJ.asize, (put_defers _ _ _).trans hJ.defers, fun q t hq hqn hd hlq => ?_, fun t ht => ?_, N0, γ0, hN0d, fun q => ?_, fun q hq t hd hts => ?_, ?_⟩
  · rcases hend with h | ⟨o', ho', hoe'⟩
    · exact .inl (by omega)
    · right
      have hnk : n < k - (p + 1) := by have := (List.getElem?_eq_some_iff.1 ho').1; simp [hll] at this; omega
      rw [hdrop n hnk] at ho'
      simp only [isElAt, ho']
      exact hoe'
  · simp only [show ¬ (p + 1 + n ≤ p) by omega, if_false]
    rw [List.drop_drop] at hfin
    exact hfin
  · by_cases h1 : q < p
    · simp only [show q ≤ p by omega, show q + 1 ≤ p by omega, h1, if_true]
      exact hJ.steps q o' h1 ho'
    · by_cases h2 : q = p
      · subst h2
        rw [ho] at ho'
        obtain rfl := Option.some.inj ho'
        simp only [Nat.le_refl, if_true, show ¬ (q + 1 ≤ q) by omega, if_false, h1, hA, hN]
        exact ⟨fun _ _ h => (by rw [he] at h; cases h), fun _ _ _ => ⟨rfl, rfl⟩, fun h => absurd h hc, fun d _ h => by rw [hin] at h; cases h⟩
      · have := (hst (q - (p + 1)) o' (by omega) (by rw [hdrop _ (by omega), show p + 1 + (q - (p + 1)) = q by omega]; exact ho')).2
        rw [show p + 1 + (q - (p + 1)) = q by omega] at this
        simp only [show ¬ q ≤ p by omega, show ¬ q + 1 ≤ p by omega, if_false, h1, h2]
        exact this
  · rw [getD_set_ne' (hne q hqk (by omega))]
    exact hJ.ahead q (by omega) hqk
  · by_cases h1 : q < p
    · rw [getD_set_ne' (hne q (by omega) (by omega))]
      exact hJ.effs q h1 hqe
    · by_cases h2 : q = p
      · subst h2; exact getD_set_self hpl
      · exfalso
        obtain ⟨o', ho'⟩ := op_at hF (q := q) (by omega)
        have := (hst (q - (p + 1)) o' (by omega) (by rw [hdrop _ (by omega), show p + 1 + (q - (p + 1)) = q by omega]; exact ho')).1
        simp only [isElAt, ho', this] at hqe
        cases hqe
  · by_cases h1 : q < p
    · rw [getD_set_ne' (hne q (by omega) (by omega))] at hlq
      rw [put_ne _ (fun h => hF.uniq q p t (by omega) hpk (by omega) hd (hdo.trans h))]
      simp only [show q + 1 ≤ p by omega, if_true]
      exact hJ.done q t h1 hqn hd hlq
    · by_cases h2 : q = p
      · subst h2
        have : o.dst = some t := hdo.symm.trans hd
        simp only [show ¬ (q + 1 ≤ q) by omega, if_false, hA]
        rw [this]
        exact put_self (hJ.asize.trans (by rw [hsz.1, hJ.A0])) _
      · rw [getD_set_ne' (hne q (by omega) (by omega)), hJ.ahead q (by omega) (by omega)] at hlq
        cases hlq
  · rw [put_ne _ (fun h => by
      have := ht p hpk (hdo.trans h)
      rw [getD_set_self hpl] at this
      cases this)]
    refine hJ.todo t fun q hq hd => ?_
    have := ht q hq hd
    by_cases e : q = p
    · subst e; exact hun
    · rwa [getD_set_ne' (hne q hq e)] at this
  · rw [hN0m q]
    by_cases e : q = p
    · subst e; simp [nonew]
    · by_cases hqk : q < k
      · rw [getD_set_ne' (hne q hqk e)]
      · simp [hqk]
  · have hq' := (hN0m q).1 hq
    have e : q ≠ p := fun e => by subst e; rw [nonew] at hq'; cases hq'.2.1
    rw [put_ne _ (fun h => hF.uniq q p t hq'.1 hpk e hd (hdo.trans h))]
    exact hN0s q hq t hd hts
  · have : N0.map (fun q => CH el ops π k (fun q => if q ≤ p then K q else K2 q) (fun s => (listed.setIfInBounds (at_ π p) true).getD (at_ π s) false) q (γ0 q)) = N0.map (fun q => CH el ops π k K (fun s => listed.getD (at_ π s) false) q (γ0 q)) := List.map_congr_left fun q hq => by
      have hq' := (hN0m q).1 hq
      have hqp : q ≤ p := Classical.byContradiction fun h => by
        have := hJ.ahead q (by omega) hq'.1
        rw [this] at hq'
        cases hq'.2.2
      have e1 : CH el ops π k (fun q => if q ≤ p then K q else K2 q) (fun s => (listed.setIfInBounds (at_ π p) true).getD (at_ π s) false) q = CH el ops π k (fun q => if q ≤ p then K q else K2 q) (fun s => listed.getD (at_ π s) false) q := CH_congr fun s hs' => by
        obtain ⟨h1, d, _, h3⟩ := iniIx_some hs'
        have : s ≠ p := fun e => by subst e; rw [hia] at h3; cases h3
        exact getD_set_ne' (hne s h1 this)
      rw [e1]
      unfold CH
      cases e : iniIx el ops π k q with
      | none => simp only [hqp, if_true]
      | some s =>
        simp only [hqp, if_true]
        by_cases hls : listed.getD (at_ π s) false = true
        · have hsp : s ≤ p := Classical.byContradiction fun h => by
            have := hJ.ahead s (by omega) (iniIx_some e).1
            rw [this] at hls
            cases hls
          simp only [hls, if_true, hsp]
        · simp only [hls, if_false, Bool.false_eq_true]
    rw [this]
    exact hS0
end

section
variable {Fn : News → List Chunk → Act → Prop} {a0 : Act} {l : List Oper}
variable (hF : Free el ops k π) (hl : ∀ q, q < k → l[q]? = ops[at_ π q]?) (hll : l.length = k)
include hF hl hll
theorem UJ.sound {Q : Exit → Act → World → Prop}
    (hfin : ∀ p A V K NW wr (listed : Array Bool) (a : Act) (w : World), UJ P el B hp ops π k Fn a0 p l A V K NW wr listed a w → (∀ i, i < k → listed.getD i false = true) → if k = ops.size then Q .normal a w else wpList P ops Q (ops.toList.drop k) a w) :
    ∀ (m : Nat) (H : List Nat) p A V K NW wr (listed : Array Bool) (a : Act) (w : World), H.length = m → H.Nodup → UJ P el B hp ops π k Fn a0 p l A V K NW wr listed a w → (∀ i, i ∈ H ↔ i < k ∧ listed.getD i false = false) → wpAny P .any ops Q (m + (ops.size - k)) listed a w := by
  have hk := hF.le
  have ready_mem : ∀ (listed : Array Bool), listed.size = ops.size → ∀ n q, q < n → q < k → listed.getD (at_ π q) false = false → ∃ j, j < k ∧ j ∈ Region.ready .any ops listed := by
    intro listed hsz n
    induction n with
    | zero => intro q h; omega
    | succ n ih =>
      intro q hqn hq hlq
      by_cases hall : ∀ m, m < q → listed.getD (at_ π m) false = true
      · obtain ⟨o, ho⟩ := op_at hF hq
        refine ⟨at_ π q, at_lt hF hq, ?_⟩
        rw [mem_ready]
        refine ⟨getD_in (by rw [hsz]; have := at_lt hF hq; omega) hlq, o, ho, fun e he hb => ?_⟩
        obtain ⟨q', hq', hx⟩ := hF.low q o hq ho e he hb
        rw [← hx]
        exact hall q' hq'
      · have : ∃ m, m < q ∧ listed.getD (at_ π m) false = false := Classical.byContradiction fun hc => hall fun m hm => by
          cases h : listed.getD (at_ π m) false with
          | true => rfl
          | false => exact absurd ⟨m, hm, h⟩ hc
        obtain ⟨m, hm, hl'⟩ := this
        exact ih m (by omega) (by omega) hl'
  intro m
  induction m with
  | zero =>
    intro H p A V K NW wr listed a w hn _ hJ hH
    have hnil : H = [] := List.eq_nil_of_length_eq_zero hn
    subst hnil
    have hall : ∀ i, i < k → listed.getD i false = true := fun i hi => by
      cases h : listed.getD i false with
      | true => rfl
      | false => exact absurd ((hH i).2 ⟨hi, h⟩) (by simp)
    have hf := hfin p A V K NW wr listed a w hJ hall
    rw [Nat.zero_add]
    by_cases he : k = ops.size
    · rw [if_pos he] at hf
      rw [← he, Nat.sub_self]
      have hr : Region.ready .any ops listed = [] := by
        cases hr : Region.ready .any ops listed with
        | nil => rfl
        | cons j r =>
          have hm : j ∈ Region.ready .any ops listed := by rw [hr]; simp
          obtain ⟨h0, o, ho, _⟩ := mem_ready.1 hm
          have hlt := (Array.getElem?_eq_some_iff.1 ho).1
          have := hall j (by omega)
          rw [getD_tf h0] at this
          cases this
      exact ⟨hr, hf⟩
    · rw [if_neg he] at hf
      rcases hF.tail with h | ⟨_, _, hseq⟩
      · exact absurd h he
      have hl : listed = Array.replicate k true ++ Array.replicate (ops.size - k) false := by
        apply Array.ext
        · simp [hJ.inv.size]; omega
        · intro i h1 h2
          rcases Nat.lt_or_ge i k with h | h
          · have := hall i h
            simp only [Array.getD_eq_getD_getElem?, Array.getElem?_eq_getElem h1, Option.getD_some] at this
            rw [this, Array.getElem_append_left (by simpa using h)]
            simp
          · have := hJ.inv.tail i h (by rw [← hJ.inv.size]; exact h1)
            simp only [Array.getD_eq_getD_getElem?, Array.getElem?_eq_getElem h1, Option.getD_some] at this
            rw [this, Array.getElem_append_right (by simpa using h)]
            simp
      have hlen : (ops.toList.drop k).length = ops.size - k := by simp
      rw [← hlen]
      refine wpAny_of_seq (ops.toList.drop k) k listed a w (fun j => by simp) ?_ hf
      rw [hlen, hl]
      exact hseq
  | succ m ih =>
    intro H p A V K NW wr listed a w hn hnd hJ hH
    have hex : ∃ i, i ∈ H := by
      cases H with
      | nil => simp at hn
      | cons i r => exact ⟨i, by simp⟩
    obtain ⟨i0, hi0⟩ := hex
    obtain ⟨hi0k, hi0l⟩ := (hH i0).1 hi0
    obtain ⟨q0, hq0, hq0i⟩ := at_onto hF hi0k
    obtain ⟨j0, hj0k, hj0⟩ := ready_mem listed hJ.inv.size (q0 + 1) q0 (by omega) hq0 (by rw [hq0i]; exact hi0l)
    rw [show m + 1 + (ops.size - k) = (m + (ops.size - k)) + 1 by omega]
    refine ⟨fun hr => (by rw [hr] at hj0; cases hj0), fun j hj => ?_⟩
    have hjk : j < k := by
      rcases Nat.lt_or_ge j k with h | h
      · exact h
      · obtain ⟨_, o, ho, _⟩ := mem_ready.1 hj
        have hlt := (Array.getElem?_eq_some_iff.1 ho).1
        rcases hF.tail with he | ⟨hs, hc, _⟩
        · omega
        · exact absurd hj (tail_waits hs hc (by omega) hJ.inv _ i0 rfl hi0k (getD_in (by rw [hJ.inv.size]; omega) hi0l) j h)
    obtain ⟨q, hqk, rfl⟩ := at_onto hF hjk
    obtain ⟨h0, o, ho, hafter⟩ := mem_ready.1 hj
    have hun := getD_tf h0
    have hdeps : ∀ i, dir ops (at_ π q) i = true → listed.getD i false = true := fun i hi => by
      obtain ⟨e, he, hb, hon⟩ := dir_spec ho hi
      rw [← hon]
      exact hafter e he hb
    have hclosed := UJ.closed hJ
    have hqp : q ≤ p := Classical.byContradiction fun h => by
      have hpk : p < k := by omega
      rcases hJ.stop with h1 | h1
      · omega
      · have h2 := hF.wait p q (by omega) hqk h1
        have h3 := bef_listed hclosed (at_ π q + 1) (at_ π q) (by omega) hdeps h2
        rw [hJ.ahead p (Nat.le_refl _) hpk] at h3
        cases h3
    have hslots := UJ.sees hF hJ hqk hqp ho hun hdeps
    have hjH : at_ π q ∈ H := (hH _).2 ⟨hjk, hun⟩
    have hjl : at_ π q < listed.size := by rw [hJ.inv.size]; omega
    have hdo : dstOf ops (at_ π q) = o.dst := by simp [dstOf, ho]
    have hne : ∀ q', q' < k → q' ≠ q → at_ π q ≠ at_ π q' := fun q' hq h he => h (at_inj hF hqk hq he).symm
    have cont : ∀ p A V K NW wr (v : Value) (w' : World), UJ P el B hp ops π k Fn a0 p l A V K NW wr (listed.setIfInBounds (at_ π q) true) (a.put o.dst v) w' → wpAny P .any ops Q (m + (ops.size - k)) (listed.setIfInBounds (at_ π q) true) (a.put o.dst v) w' := fun p A V K NW wr v w' hJ' => by
      refine ih (H.erase (at_ π q)) p A V K NW wr _ _ _ (by rw [List.length_erase_of_mem hjH]; omega) (hnd.erase _) hJ' fun i => ?_
      rw [hnd.mem_erase_iff, hH i]
      by_cases e : i = at_ π q
      · subst e; rw [getD_set_self hjl]; simp
      · rw [getD_set_ne' (Ne.symm e)]; simp [e]
    have hinv : HeadInv .any ops k (listed.setIfInBounds (at_ π q) true) := hJ.inv.set hj hjk
    obtain ⟨N, γ, hNd, hNm, hNs, hNS⟩ := hJ.news
    have hUs := fun {m : Nat} (h : m ≤ p) => UA_size hF hJ.le hJ.steps h
    unfold wpOp
    simp only [ho]
    by_cases hoe : ordered el o = true
    · -- it is done in an order: the walk stands before it
      have hc : cls o.op ≠ .new := fun hc => by simp [ordered, hc] at hoe
      have hin : iniOf el o = none := by
        simp only [ordered, Bool.and_eq_true] at hoe
        simpa using hoe.2
      have he : isEl el o = true := by
        simp only [ordered, Bool.and_eq_true] at hoe
        exact hoe.1.1
      have hqep : q = p := by
        rcases Nat.lt_or_ge q p with h | h
        · have := hJ.effs q h (by simp only [isElAt, ho]; exact hoe)
          rw [hun] at this
          cases this
        · omega
      subst hqep
      obtain ⟨hops, hwant⟩ := eval_of_slots o (fun t ht => hslots t ht (by rw [hin]; simp))
      have hexe : execOp a.eval o = execOp (A q).eval o := execOp_congr o (fun cs b => Region.noSelect_spec hF.sel _ o cs b ho) hops
      rw [hwant]
      have hr := hJ.rest
      have hlq : l.drop q = o :: l.drop (q + 1) := by
        have hql : q < l.length := by omega
        rw [List.drop_eq_getElem_cons hql]
        have := hl q hqk
        rw [ho, List.getElem?_eq_getElem hql] at this
        rw [Option.some.inj this]
      rw [hlq] at hr
      unfold MP at hr
      by_cases hw : Region.wanted o (yielded ops (A q).tmps) = true
      · rw [if_pos hw, if_neg hc, hin] at hr
        simp only [he, if_true] at hr
        obtain ⟨X, ok, v, wr', hex, hnext⟩ := hr
        rw [if_pos hw]
        refine .inl ?_
        unfold Oper.wp
        rw [hexe]
        have hq' := hex _ w hNS
        unfold effOne at hq'
        have adv : ∀ u w', (∃ x, ok x ∧ u = v x ∧ St B w' (N.map (fun q => CH el ops π k K (fun s => listed.getD (at_ π s) false) q (γ q)) ++ (wr' x ++ hp))) → wpAny P .any ops Q (m + (ops.size - k)) (listed.setIfInBounds (at_ π q) true) (a.put o.dst u) w' := fun u w' ⟨x, hok, hu, hS⟩ => by
          subst hu
          obtain ⟨p', A', V', K', NW', hJ'⟩ := UJ.advance hF hl hll hJ hqk ho hoe hj (hnext x hok) N γ hNd hNm hNs hS
          exact cont _ _ _ _ _ _ _ _ hJ'
        generalize (execOp (A q).eval o).run P w = r at hq'
        cases r with
        | ok n w' =>
          cases n <;> simp only at hq' <;> simp only [Oper.upon]
          case value u => exact adv _ _ hq'
          case skip => exact adv _ _ hq'
          case enter f args =>
            refine hq'.mono fun e w'' ⟨u, he', hC⟩ => ?_
            subst he'
            exact adv _ _ hC
        | halt h w' => simp only at hq'
      · rw [if_neg hw] at hr
        rw [if_neg hw]
        obtain ⟨p', A', V', K', NW', hJ'⟩ := UJ.advance hF hl hll hJ hqk ho hoe hj hr N γ hNd hNm hNs hNS
        exact cont _ _ _ _ _ _ _ _ hJ'
    have hoe' : ordered el o = false := by simpa using hoe
    have hqlt : q < p := by
      rcases Nat.lt_or_ge q p with h | h
      · exact h
      · have hqep : q = p := by omega
        rcases hJ.stop with h1 | h1
        · omega
        · rw [← hqep] at h1
          simp only [isElAt, ho, hoe'] at h1
          cases h1
    have hs := hJ.steps q o hqlt ho
    have hsz : (A q).tmps.size = a0.tmps.size := by rw [(hUs (Nat.le_of_lt hqlt)).1, hJ.A0]
    -- an operation that makes nothing new
    have stay : ∀ (v : Value) (w' : World), v = V q → cls o.op ≠ .new → St B w' (N.map (fun q' => CH el ops π k K (fun s => (listed.setIfInBounds (at_ π q) true).getD (at_ π s) false) q' (γ q')) ++ (wr ++ hp)) → UJ P el B hp ops π k Fn a0 p l A V K NW wr (listed.setIfInBounds (at_ π q) true) (a.put o.dst v) w' := fun v w' hv hc hS => by
      subst hv
      have hnn : isNewAt ops (at_ π q) = false := by simp [isNewAt, ho, hc]
      refine ⟨hJ.le, hJ.stop, hJ.A0, hJ.N0, hJ.rest, hJ.steps, fun q' h1 h2 => ?_, fun q' h1 h2 => ?_, hinv, (put_size _ _ _).trans hJ.asize, (put_defers _ _ _).trans hJ.defers, fun q' t hi hin hdi hl' => ?_, fun t h => ?_, N, γ, hNd, fun q' => ?_, fun q' hi t hdi hts => ?_, hS⟩
      · rw [getD_set_ne' (hne q' h2 (by omega))]
        exact hJ.ahead q' h1 h2
      · by_cases e : q' = q
        · subst e; exact getD_set_self hjl
        · rw [getD_set_ne' (hne q' (by have := hJ.le; omega) e)]
          exact hJ.effs q' h1 h2
      · by_cases hij : q' = q
        · subst hij
          rw [UA_put hF hJ.le hJ.steps hqlt ho hc]
          have : o.dst = some t := hdo.symm.trans hdi
          rw [this]
          exact put_self (hJ.asize.trans hsz.symm) _
        · have hqk' : q' < k := by have := hJ.le; omega
          rw [getD_set_ne' (hne q' hqk' hij)] at hl'
          rw [put_ne _ (fun hd => hF.uniq q' q t hqk' hqk hij hdi (hdo.trans hd))]
          exact hJ.done q' t hi hin hdi hl'
      · rw [put_ne _ (fun hd => by
          have := h q hqk (hdo.trans hd)
          rw [getD_set_self hjl] at this
          cases this)]
        refine hJ.todo t fun q' hi hdi => ?_
        have := h q' hi hdi
        by_cases hij : q' = q
        · subst hij; exact hun
        · rwa [getD_set_ne' (hne q' hi hij)] at this
      · rw [hNm q']
        by_cases hij : q' = q
        · subst hij; simp [hnn]
        · by_cases hqk' : q' < k
          · rw [getD_set_ne' (hne q' hqk' hij)]
          · simp [hqk']
      · have hi' := (hNm q').1 hi
        have hij : q' ≠ q := fun e => by subst e; rw [hnn] at hi'; cases hi'.2.1
        rw [put_ne _ (fun hd => hF.uniq q' q t hi'.1 hqk hij hdi (hdo.trans hd))]
        exact hNs q' hi t hdi hts
    -- what stands in the new blocks does not turn but by the store that fills it
    have chk : iniAt el ops (at_ π q) = none → N.map (fun q' => CH el ops π k K (fun s => (listed.setIfInBounds (at_ π q) true).getD (at_ π s) false) q' (γ q')) = N.map (fun q' => CH el ops π k K (fun s => listed.getD (at_ π s) false) q' (γ q')) := fun hn => List.map_congr_left fun q' _ => by
      rw [CH_congr fun s hs' => ?_]
      obtain ⟨h1, d, _, h3⟩ := iniIx_some hs'
      have : s ≠ q := fun e => by subst e; rw [hn] at h3; cases h3
      exact getD_set_ne' (hne s h1 this)
    cases hin : iniOf el o with
    | some d =>
      obtain ⟨hg, hdn, hc, ⟨i0, hi0, hi0n, hi0d, hi0b⟩, hu⟩ := hF.ini q o d hqk ho hin
      have hia : iniAt el ops (at_ π q) = some d := by simp only [iniAt, ho]; exact hin
      obtain ⟨hAA, hNN, mk0, hget, hfill⟩ := hs.ini d hc hin hg hdn
      rw [if_pos (by simp [Region.wanted, hg])]
      refine .inl ?_
      unfold Oper.wp
      have hli0 : listed.getD (at_ π i0) false = true := bef_listed hclosed (at_ π q + 1) (at_ π q) (by omega) hdeps hi0b
      have hi0N : i0 ∈ N := (hNm i0).2 ⟨by omega, hi0n, hli0⟩
      have hslot : ∀ t ∈ o.looksAt ops, a.tmps[t]? = ((A q).put (some d) (newPtr (γ i0))).tmps[t]? := fun t ht => by
        by_cases e : t = d
        · subst e
          by_cases hlt : t < a0.tmps.size
          · rw [hNs i0 hi0N t hi0d hlt]
            simp [Act.put, hsz, hlt]
          · rw [Array.getElem?_eq_none (by rw [hJ.asize]; exact Nat.le_of_not_lt hlt), Array.getElem?_eq_none (by rw [put_size, hsz]; exact Nat.le_of_not_lt hlt)]
        · rw [put_ne _ (fun h => e (Option.some.inj h).symm)]
          exact hslots t ht (fun h => e (Option.some.inj (h.symm.trans hin)))
      obtain ⟨hops, _⟩ := eval_of_slots o hslot
      have hexe : execOp a.eval o = execOp ((A q).put (some d) (newPtr (γ i0))).eval o := execOp_congr o (fun cs b => Region.noSelect_spec hF.sel _ o cs b ho) hops
      rw [hexe]
      have hx := iniIx_eq hi0d hqk hia hu
      have hmk0 : mk0 = K i0 := by
        have h1 := NW_eq hF hJ.le hJ.steps hJ.N0 (m := q) (by omega)
        rw [h1] at hget
        unfold getN at hget
        rw [Option.map_eq_some_iff] at hget
        obtain ⟨pr, hp1, hp2⟩ := hget
        have hpm := List.mem_of_find?_eq_some hp1
        obtain ⟨i, hi, rfl⟩ := List.mem_map.1 hpm
        have hpd : (dstOf ops (at_ π i)).getD 0 = d := by simpa using List.find?_some hp1
        have hij := List.mem_range.1 (List.mem_filter.1 hi).1
        have hin' : isNewAt ops (at_ π i) = true := (List.mem_filter.1 hi).2
        have hdi : dstOf ops (at_ π i) = some d := by
          obtain ⟨oi, hoi⟩ := op_at hF (q := i) (by omega)
          have hci : cls oi.op = .new := by simpa [isNewAt, hoi] using hin'
          obtain ⟨_, _, d', hd', _⟩ := (hJ.steps i oi (by omega) hoi).new hci (hF.new i oi (by omega) hoi hci).1
          have : dstOf ops (at_ π i) = some d' := by simp [dstOf, hoi, hd']
          rw [this] at hpd ⊢
          simp at hpd
          rw [hpd]
        have : i = i0 := Classical.byContradiction fun hne' => hF.uniq i i0 d (by omega) (by omega) hne' hdi hi0d
        subst this
        rw [← hp2]
        simp only [CH, hx]
        have hlt : ¬ q < q := by omega
        simp [hlt]
      have e0 : CH el ops π k K (fun s => listed.getD (at_ π s) false) i0 = K i0 := by simp only [CH, hx, hun]; simp
      have e1 : CH el ops π k K (fun s => (listed.setIfInBounds (at_ π q) true).getD (at_ π s) false) i0 = K q := by
        have h1 := getD_set_self hjl
        simp only [CH, hx, h1, if_true]
      have eo : (N.erase i0).map (fun q' => CH el ops π k K (fun s => (listed.setIfInBounds (at_ π q) true).getD (at_ π s) false) q' (γ q')) = (N.erase i0).map (fun q' => CH el ops π k K (fun s => listed.getD (at_ π s) false) q' (γ q')) := List.map_congr_left fun i hi => by
        rw [CH_congr fun s hs' => ?_]
        have hiN := (hNd.mem_erase_iff.1 hi)
        obtain ⟨h1, d', h2, h3⟩ := iniIx_some hs'
        have : s ≠ q := fun e => by
          subst e
          rw [hia] at h3
          obtain rfl := Option.some.inj h3
          exact hF.uniq i i0 d ((hNm i).1 hiN.2).1 (by omega) hiN.1 h2 hi0d
        exact getD_set_ne' (hne s h1 this)
      have hperm := List.perm_cons_erase hi0N
      have hS1 : St B w (mk0 (γ i0) :: (((N.erase i0).map (fun q' => CH el ops π k K (fun s => listed.getD (at_ π s) false) q' (γ q')) ++ wr) ++ hp)) := by
        refine hNS.perm ?_
        rw [hmk0, ← e0, List.append_assoc]
        exact List.Perm.append_right _ (hperm.map fun q' => CH el ops π k K (fun s => listed.getD (at_ π s) false) q' (γ q'))
      obtain ⟨w', he, hS'⟩ := hfill.2 (γ i0) _ w hS1
      rw [he]
      have hv : ∀ u v : Value, a.put o.dst u = a.put o.dst v := fun _ _ => by rw [hdn]; rfl
      show wpAny P .any ops Q (m + (ops.size - k)) (listed.setIfInBounds (at_ π q) true) (a.put o.dst undef) w'
      rw [hv undef (V q)]
      refine cont _ _ _ _ _ _ _ _ (stay _ _ rfl hc ?_)
      refine hS'.perm ?_
      rw [List.append_assoc, ← eo, ← e1]
      exact (List.Perm.append_right _ (hperm.map fun q' => CH el ops π k K (fun s => (listed.setIfInBounds (at_ π q) true).getD (at_ π s) false) q' (γ q'))).symm
    | none =>
    obtain ⟨hops, hwant⟩ := eval_of_slots o (fun t ht => hslots t ht (by rw [hin]; simp))
    have hexe : execOp a.eval o = execOp (A q).eval o := execOp_congr o (fun cs b => Region.noSelect_spec hF.sel _ o cs b ho) hops
    have hn0 : iniAt el ops (at_ π q) = none := by simp only [iniAt, ho]; exact hin
    have chk := chk hn0
    rw [hwant]
    by_cases hc : cls o.op = .new
    · obtain ⟨hg, hgd⟩ := hF.new q o hqk ho hc
      obtain ⟨hAA, hmk, d, hd, _⟩ := hs.new hc hg
      rw [if_pos (by simp [Region.wanted, hg])]
      refine .inl ?_
      unfold Oper.wp
      rw [hexe]
      obtain ⟨w', he, hS'⟩ := hmk (N.map (fun q' => CH el ops π k K (fun s => listed.getD (at_ π s) false) q' (γ q')) ++ wr) w (by rw [List.append_assoc]; exact hNS)
      rw [List.append_assoc] at hS'
      rw [he]
      refine cont p A V K NW wr _ _ ?_
      have hnn : isNewAt ops (at_ π q) = true := by simp [isNewAt, ho, hc]
      have hjN : q ∉ N := fun h => by rw [((hNm q).1 h).2.2] at hun; cases hun
      refine ⟨hJ.le, hJ.stop, hJ.A0, hJ.N0, hJ.rest, hJ.steps, fun q' h1 h2 => ?_, fun q' h1 h2 => ?_, hinv, (put_size _ _ _).trans hJ.asize, (put_defers _ _ _).trans hJ.defers, fun q' t hi hin' hdi hl' => ?_, fun t h => ?_, q :: N, fun q' => if q' = q then w.heap.size else γ q', List.nodup_cons.2 ⟨hjN, hNd⟩, fun q' => ?_, fun q' hi t hdi hts => ?_, ?_⟩
      · rw [getD_set_ne' (hne q' h2 (by omega))]
        exact hJ.ahead q' h1 h2
      · by_cases e : q' = q
        · subst e; exact getD_set_self hjl
        · rw [getD_set_ne' (hne q' (by have := hJ.le; omega) e)]
          exact hJ.effs q' h1 h2
      · have hqk' : q' < k := by have := hJ.le; omega
        have hij : q' ≠ q := fun e => by subst e; rw [hnn] at hin'; cases hin'
        rw [getD_set_ne' (hne q' hqk' hij)] at hl'
        rw [put_ne _ (fun hd => hF.uniq q' q t hqk' hqk hij hdi (hdo.trans hd))]
        exact hJ.done q' t hi hin' hdi hl'
      · rw [put_ne _ (fun hd => by
          have := h q hqk (hdo.trans hd)
          rw [getD_set_self hjl] at this
          cases this)]
        refine hJ.todo t fun q' hi hdi => ?_
        have := h q' hi hdi
        by_cases hij : q' = q
        · subst hij; exact hun
        · rwa [getD_set_ne' (hne q' hi hij)] at this
      · rw [List.mem_cons, hNm q']
        by_cases hij : q' = q
        · subst hij; rw [getD_set_self hjl]; simp [hnn, hqk]
        · by_cases hqk' : q' < k
          · rw [getD_set_ne' (hne q' hqk' hij)]; simp [hij]
          · simp [hqk', hij]
      · rcases List.mem_cons.1 hi with rfl | hi'
        · have : o.dst = some t := hdo.symm.trans hdi
          rw [this]
          show _ = some (newPtr (if q' = q' then w.heap.size else γ q'))
          rw [if_pos rfl]
          simp [Act.put, hJ.asize, hts]
        · have hij : q' ≠ q := fun e => hjN (e ▸ hi')
          rw [put_ne _ (fun hd => hF.uniq q' q t ((hNm q').1 hi').1 hqk hij hdi (hdo.trans hd))]
          show _ = some (newPtr (if q' = q then w.heap.size else γ q'))
          rw [if_neg hij]
          exact hNs q' hi' t hdi hts
      · have ej : CH el ops π k K (fun s => (listed.setIfInBounds (at_ π q) true).getD (at_ π s) false) q = K q := by
          cases e : iniIx el ops π k q with
          | none => simp only [CH, e]
          | some s =>
            obtain ⟨h1, d', h2, h3⟩ := iniIx_some e
            obtain ⟨os, hso⟩ := op_at hF (q := s) h1
            obtain ⟨_, _, _, ⟨i', h4, h5, h6, h7⟩, _⟩ := hF.ini s os d' h1 hso (by simpa [iniAt, hso] using h3)
            have hij : i' = q := Classical.byContradiction fun hne' => hF.uniq i' q d' (by omega) hqk hne' h6 h2
            subst hij
            have hns : listed.getD (at_ π s) false = false := by
              cases hl' : listed.getD (at_ π s) false with
              | false => rfl
              | true =>
                have := bef_listed hclosed (at_ π s + 1) (at_ π s) (by omega) (hclosed (at_ π s) hl') h7
                rw [hun] at this
                cases this
            have h8 : (listed.setIfInBounds (at_ π i') true).getD (at_ π s) false = false := by
              rw [getD_set_ne' (hne s h1 (by omega))]
              exact hns
            simp only [CH, e, h8, Bool.false_eq_true, if_false]
        show St B w' (CH el ops π k K (fun s => (listed.setIfInBounds (at_ π q) true).getD (at_ π s) false) q (if q = q then w.heap.size else γ q) :: (N.map (fun q' => CH el ops π k K (fun s => (listed.setIfInBounds (at_ π q) true).getD (at_ π s) false) q' (if q' = q then w.heap.size else γ q')) ++ (wr ++ hp)))
        rw [if_pos rfl, ej]
        have : N.map (fun q' => CH el ops π k K (fun s => (listed.setIfInBounds (at_ π q) true).getD (at_ π s) false) q' (if q' = q then w.heap.size else γ q')) = N.map (fun q' => CH el ops π k K (fun s => listed.getD (at_ π s) false) q' (γ q')) := by
          rw [← chk]
          exact List.map_congr_left fun i hi => by
            have hij : i ≠ q := fun e => hjN (e ▸ hi)
            rw [if_neg hij]
        rw [this]
        exact hS'
    · have he : isEl el o = false := by
        simp only [ordered, hin, Option.isNone_none, Bool.and_true] at hoe'
        simpa [hc] using hoe'
      rcases (hs.old hc hin he).2.2 with ⟨hw, hv⟩ | ⟨hw, hq⟩
      · rw [if_neg (by rw [hw]; simp)]
        exact cont _ _ _ _ _ _ _ _ (stay _ _ hv.symm hc (by rw [chk]; exact hNS))
      · rw [if_pos hw]
        refine .inl ?_
        unfold Oper.wp
        rw [hexe]
        have hq := hq (N.map (fun q' => CH el ops π k K (fun s => listed.getD (at_ π s) false) q' (γ q')) ++ wr) w (by rw [List.append_assoc]; exact hNS)
        unfold Oper.quietAt at hq
        generalize (execOp (A q).eval o).run P w = r at hq
        cases r with
        | ok n w' =>
          cases n <;> simp only [Oper.quietUpon] at hq <;> simp only [Oper.upon]
          case value u => obtain ⟨rfl, hv⟩ := hq; exact cont _ _ _ _ _ _ _ _ (stay _ _ hv hc (by rw [chk]; exact hNS))
          case skip => obtain ⟨rfl, hv⟩ := hq; exact cont _ _ _ _ _ _ _ _ (stay _ _ hv.symm hc (by rw [chk]; exact hNS))
          case enter f args =>
            obtain ⟨rfl, hcall⟩ := hq
            refine hcall.mono fun e w'' ⟨he', hC⟩ => ?_
            subst he'
            rw [List.append_assoc] at hC
            exact cont _ _ _ _ _ _ _ _ (stay _ _ rfl hc (by rw [chk]; exact hC))
        | halt h w' => simp only [Oper.quietUpon] at hq
end
end

/-! ### The region -/
/-- Whatever the new blocks' places. -/
def FinG (n : Nat) (B : Base) (G : Act → World → Prop) : News → Fr → List Chunk → Prop
  | [], l, hp => S n l B hp G
  | (d, mk) :: r, l, hp => d < n ∧ ∀ g, FinG n B G r ((d, newPtr g) :: l) (mk g :: hp)
theorem FinG.use {n : Nat} {G : Act → World → Prop} : ∀ (news : News) (gs : List Nat) (l : Fr) (hp : List Chunk) (a : Act) (w : World), FinG n B G news l hp → gs.length = news.length → a.tmps.size = n → a.defers = [] →
    (∀ t v, look l t = some v → (∀ p ∈ news, p.1 ≠ t) → a.tmps[t]? = some v) → (∀ (i : Nat) p g, news[i]? = some p → gs[i]? = some g → p.1 < n → a.tmps[p.1]? = some (newPtr g)) → St B w ((news.zip gs).map (fun x => x.1.2 x.2) ++ hp) → G a w
  | [], gs, l, hp, a, w, h, _, hs, hd, hl, _, hS => h a w ⟨hs, hd, fun t v e => hl t v e (by simp)⟩ (by simpa using hS)
  | (d, mk) :: r, [], l, hp, a, w, h, hlen, hs, hd, hl, hn, hS => by simp at hlen
  | (d, mk) :: r, g :: gs, l, hp, a, w, h, hlen, hs, hd, hl, hn, hS => by
    refine FinG.use r gs ((d, newPtr g) :: l) (mk g :: hp) a w (h.2 g) (by simpa using hlen) hs hd (fun t v e hne => ?_) (fun i p g' h1 h2 => hn (i + 1) p g' (by simpa using h1) (by simpa using h2)) ?_
    · simp only [look] at e
      cases hb : Nat.beq d t with
      | true =>
        have := Nat.eq_of_beq_eq_true hb
        subst this
        simp at e
        subst e
        exact hn 0 (d, mk) g rfl rfl h.1
      | false =>
        simp [hb] at e
        refine hl t v e fun p hp => ?_
        rcases List.mem_cons.1 hp with rfl | hp
        · intro e'
          simp only at e'
          rw [e'] at hb
          simp at hb
        · exact hne p hp
    · refine hS.perm ?_
      simp only [List.zip_cons_cons, List.map_cons, List.cons_append]
      exact List.perm_middle.symm
theorem perm_of_nodup {α : Type} [DecidableEq α] : ∀ {l m : List α}, l.Nodup → m.Nodup → (∀ a, a ∈ l ↔ a ∈ m) → l.Perm m
  | [], m, _, _, h => by
    cases m with
    | nil => exact .nil
    | cons a r => exact absurd ((h a).2 (by simp)) (by simp)
  | a :: l, m, hl, hm, h => by
    have ha : a ∈ m := (h a).1 (by simp)
    have h1 := List.perm_cons_erase ha
    refine (List.Perm.cons a (perm_of_nodup (List.nodup_cons.1 hl).2 (hm.erase a) fun b => ?_)).trans h1.symm
    rw [hm.mem_erase_iff, ← h b, List.mem_cons]
    constructor
    · exact fun hb => ⟨fun e => (List.nodup_cons.1 hl).1 (e ▸ hb), .inr hb⟩
    · rintro ⟨hne, rfl | hb⟩
      · exact absurd rfl hne
      · exact hb
/-- What is to be shown behind the walk. -/
def MEnd (B : Base) (hp : List Chunk) (R : Act → World → Prop) (news : News) (a' : Act) : Prop :=
  ∀ (gs : List Nat) (a'' : Act) (w : World), gs.length = news.length → a''.tmps.size = a'.tmps.size → a''.defers = a'.defers → (∀ t, (∀ p ∈ news, p.1 ≠ t) → a''.tmps[t]? = a'.tmps[t]?) →
    (∀ (i : Nat) p g, news[i]? = some p → gs[i]? = some g → p.1 < a'.tmps.size → a''.tmps[p.1]? = some (newPtr g)) → St B w ((news.zip gs).map (fun x => x.1.2 x.2) ++ hp) → R a'' w
theorem MEnd.of {n : Nat} {l : Fr} {R : Act → World → Prop} {news : News} {a : Act} (hA : Has a n l) (h : FinG n B R news l hp) : MEnd B hp R news a := fun gs a'' w h1 h2 h3 h4 h5 h6 =>
  FinG.use news gs l hp a'' w h h1 (h2.trans hA.size) (h3.trans hA.defers) (fun t v e hne => (h4 t hne).trans (hA.slot t v e)) (fun i p g e1 e2 hlt => h5 i p g e1 e2 (by rw [hA.size]; exact hlt)) h6
def MEndW (B : Base) (hp : List Chunk) (R : Act → World → Prop) (news : News) (wr : List Chunk) (a : Act) : Prop := MEnd B (wr ++ hp) R news a
/-- The operations in the order of the walk. -/
def nthL {α : Type _} : List α → Nat → Option α
  | [], _ => none
  | x :: _, 0 => some x
  | _ :: r, i + 1 => nthL r i
theorem nthL_eq {α : Type _} (l : List α) (i : Nat) : nthL l i = l[i]? := by
  induction l generalizing i with
  | nil => simp [nthL]
  | cons x r ih => cases i <;> simp [nthL, ih]
def pickL {α : Type _} (l : List α) : List Nat → List α
  | [] => []
  | i :: is => match nthL l i with
    | some x => x :: pickL l is
    | none => pickL l is
theorem pickL_eq {α : Type _} (l : List α) : ∀ (is : List Nat), (∀ i ∈ is, i < l.length) → (pickL l is).length = is.length ∧ ∀ q, q < is.length → (pickL l is)[q]? = l[is.getD q 0]?
  | [], _ => ⟨rfl, fun q h => by simp at h⟩
  | i :: is, h => by
    have hi := h i (by simp)
    obtain ⟨h1, h2⟩ := pickL_eq l is fun j hj => h j (by simp [hj])
    simp only [pickL, nthL_eq, List.getElem?_eq_getElem hi]
    refine ⟨by simp [h1], fun q hq => ?_⟩
    cases q with
    | zero => simp
    | succ q =>
      simp only [List.getElem?_cons_succ]
      rw [h2 q (by simpa using hq)]
      simp
theorem c_freeT {el : Ord} {id n : Nat} {l : Fr} {os : List Oper} {Q : Exit → Act → World → Prop} {wr : List Chunk} (k : Nat) (π : List Nat) (hm : P.follows .mixedOrders = true) (hB : freeB el os.toArray k π = true)
    (h : ∀ a, Has a n l → MP P os.toArray el B hp (MEndW B hp fun a'' w => if k = os.length then Q .normal a'' w else wpList P os.toArray Q (os.drop k) a'' w) (pickL os π) [] wr a) :
    S n l B (wr ++ hp) (Code.wp P (.region id os.toArray true) Q) := fun a w hA hS => by
  refine wp_region_any hm ?_
  have hF := freeB_spec hB
  have hks := hF.le
  have hk' : k ≤ os.length := by simpa using hF.le
  have hpi : ∀ i ∈ π, i < os.length := fun i hi => by
    have := List.mem_range.1 (hF.perm.mem_iff.1 hi)
    omega
  have hlen : π.length = k := by rw [hF.perm.length_eq]; simp
  obtain ⟨hll0, hl0⟩ := pickL_eq os π hpi
  have hll : (pickL os π).length = k := hll0.trans hlen
  have hl : ∀ q, q < k → (pickL os π)[q]? = os.toArray[at_ π q]? := fun q hq => by
    rw [hl0 q (by omega)]
    simp [at_]
  obtain ⟨p, A, V, K, NW, hJ0⟩ := UJ.start hF hl hll (h a hA) (w := { w with drawn := w.drawn + 1 }) hS.drew
  have key := UJ.sound (Q := Q) hF hl hll (fun p A V K NW wr' listed a'' w' hJ hall => ?_) k (List.range k) p A V K NW wr (Array.replicate os.toArray.size false) a { w with drawn := w.drawn + 1 } (by simp) List.nodup_range hJ0 (fun i => by rw [getD_replicate_false]; simp)
  · rw [show k + (os.toArray.size - k) = os.toArray.size by omega] at key
    exact key
  · obtain rfl : p = k := by
      rcases Nat.lt_or_ge p k with hlt | hge
      · have h1 := hJ.ahead p (Nat.le_refl _) hlt
        rw [hall _ (at_lt hF hlt)] at h1
        cases h1
      · have := hJ.le; omega
    obtain ⟨N, γ, hNd, hNm, hNs, hNS⟩ := hJ.news
    have hsz := UA_size hF hJ.le hJ.steps (Nat.le_refl p)
    have hNk := NW_eq hF hJ.le hJ.steps hJ.N0 (Nat.le_refl p)
    have hCk : ∀ q, CH el os.toArray π p K (fun s => listed.getD (at_ π s) false) q = CH el os.toArray π p K (fun s => decide (s < p)) q := fun q => CH_congr fun s hs' => by
      have h1 := (iniIx_some hs').1
      rw [hall _ (at_lt hF h1)]
      simp [h1]
    have hperm : N.Perm ((List.range p).filter fun q => isNewAt os.toArray (at_ π q)) := perm_of_nodup hNd (List.nodup_range.filter _) fun q => by
      rw [hNm q, List.mem_filter, List.mem_range]
      constructor
      · exact fun h => ⟨h.1, h.2.1⟩
      · exact fun h => ⟨h.1, h.2, hall _ (at_lt hF h.1)⟩
    have hfin := hJ.rest
    rw [List.drop_of_length_le (Nat.le_of_eq hll)] at hfin
    simp only [MP] at hfin
    rw [hNk] at hfin
    have hdst : ∀ q, q < p → isNewAt os.toArray (at_ π q) = true → ∃ d, dstOf os.toArray (at_ π q) = some d := fun q hq hn => by
      obtain ⟨o, ho⟩ := op_at hF hq
      have hc : cls o.op = .new := by simpa [isNewAt, ho] using hn
      obtain ⟨_, _, d, hd, _⟩ := (hJ.steps q o hq ho).new hc (hF.new q o hq ho hc).1
      exact ⟨d, by simp [dstOf, ho, hd]⟩
    have := hfin (((List.range p).filter fun q => isNewAt os.toArray (at_ π q)).map γ) a'' w' (by simp) (hJ.asize.trans (by rw [hsz.1, hJ.A0])) (hJ.defers.trans (by rw [hsz.2, hJ.A0])) (fun t ht => ?_) (fun i pr g h1 h2 hlt => ?_) ?_
    · rw [show os.toArray.size = os.length by simp, List.toList_toArray]
      exact this
    · by_cases hw : ∃ q, q < p ∧ dstOf os.toArray (at_ π q) = some t
      · obtain ⟨q, hq, hdq⟩ := hw
        have hnn : isNewAt os.toArray (at_ π q) = false := by
          cases h : isNewAt os.toArray (at_ π q) with
          | false => rfl
          | true => exact absurd (by simp [hdq]) (ht ((dstOf os.toArray (at_ π q)).getD 0, CH el os.toArray π p K (fun s => decide (s < p)) q) (List.mem_map.2 ⟨q, List.mem_filter.2 ⟨List.mem_range.2 hq, h⟩, rfl⟩))
        rw [hJ.done q t hq hnn hdq (hall _ (at_lt hF hq))]
        exact (UA_keep hF hJ.le hJ.steps (by omega) (Nat.le_refl _) fun m h3 h4 => .inr (hF.uniq q m t hq (by omega) (by omega) hdq)).symm
      · have hw' : ∀ q, q < p → dstOf os.toArray (at_ π q) ≠ some t := fun q hq hd => hw ⟨q, hq, hd⟩
        rw [hJ.todo t fun q hq hd => absurd hd (hw' q hq), ← hJ.A0]
        exact (UA_keep hF hJ.le hJ.steps (Nat.zero_le _) (Nat.le_refl _) fun m _ h4 => .inr (hw' m h4)).symm
    · rw [List.getElem?_map, Option.map_eq_some_iff] at h1 h2
      obtain ⟨j, hj, rfl⟩ := h1
      obtain ⟨j', hj', rfl⟩ := h2
      rw [hj] at hj'
      injection hj' with hj'
      subst hj'
      have hjm := List.mem_filter.1 (List.mem_of_getElem? hj)
      have hjk := List.mem_range.1 hjm.1
      obtain ⟨d, hd⟩ := hdst j hjk hjm.2
      simp only [hd, Option.getD_some] at hlt ⊢
      exact hNs j ((hNm j).2 ⟨hjk, hjm.2, hall _ (at_lt hF hjk)⟩) d hd (by rw [← hJ.A0, ← hsz.1]; exact hlt)
    · refine hNS.perm (List.Perm.append_right _ ?_)
      have e : ((((List.range p).filter fun q => isNewAt os.toArray (at_ π q)).map fun q => ((dstOf os.toArray (at_ π q)).getD 0, CH el os.toArray π p K (fun s => decide (s < p)) q)).zip (((List.range p).filter fun q => isNewAt os.toArray (at_ π q)).map γ)).map (fun x => x.1.2 x.2) = ((List.range p).filter fun q => isNewAt os.toArray (at_ π q)).map fun q => CH el os.toArray π p K (fun s => listed.getD (at_ π s) false) q (γ q) := by
        generalize (List.range p).filter (fun q => isNewAt os.toArray (at_ π q)) = L
        induction L with
        | nil => rfl
        | cons i r ih =>
          simp only [List.map_cons, List.zip_cons_cons, ih]
          rw [hCk]
      rw [e]
      exact hperm.map _
end
end Go.Proofs.Ytnckabgaichkkaa.Eng
