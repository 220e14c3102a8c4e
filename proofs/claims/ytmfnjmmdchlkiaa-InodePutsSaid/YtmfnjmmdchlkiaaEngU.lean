/-
A region that draws its order, with new blocks beside calls: all but the last operations read, make new blocks, whose places no other of them looks at, and, in an order, turn some blocks; the last ones stand in order behind.
-/
import Derived.Test.YtmfnjmmdchlkiaaEng1
namespace Go.Proofs.Ytmfnjmmdchlkiaa.Eng
set_option linter.unusedVariables false
set_option linter.unusedSimpArgs false
open Go

section
variable {P : Program} {ops : Array Oper} {B : Base} {hp : List Chunk}
abbrev News := List (Nat × (Nat → Chunk))
def newPtr (g : Nat) : Value := .pointer (some ⟨g, 0, none⟩)
/-- An operation that makes a new block, whatever else there is. -/
def MakesNew (P : Program) (B : Base) (hp : List Chunk) (o : Oper) (a : Act) (mk : Nat → Chunk) : Prop :=
  ∀ X w, St B w (X ++ hp) → ∃ w', (execOp a.eval o).run P w = .ok (.value (newPtr w.heap.size)) w' ∧ St B w' (mk w.heap.size :: (X ++ hp))
/-- What is done in an order ('el': what yields one of these slots, and what yields nothing); which new blocks are filled by a store in the region ('il': their slots). -/
structure Ord where
  el : List Nat
  il : List Nat
def isEl (el : Ord) (o : Oper) : Bool := match o.dst with
  | some d => el.el.contains d
  | none => true
def iniOf (el : Ord) (o : Oper) : Option Nat := match o.op with
  | .store _ (.tmp d) _ => if el.il.contains d then some d else none
  | _ => none
theorem iniOf_none {el : Ord} {o : Oper} (h : cls o.op ≠ .eff) : iniOf el o = none := by
  unfold iniOf
  split
  · rename_i h1
    rw [h1] at h
    exact absurd rfl h
  · rfl
def getN (news : News) (d : Nat) : Option (Nat → Chunk) := (news.find? fun p => p.1 == d).map (·.2)
def setN (news : News) (d : Nat) (mk : Nat → Chunk) : News := news.map fun p => bif p.1 == d then (d, mk) else p
/-- A store that fills a new block. -/
def Fills (P : Program) (B : Base) (hp : List Chunk) (o : Oper) (a : Act) (d : Nat) (mk mk' : Nat → Chunk) : Prop :=
  d < a.tmps.size ∧ ∀ g X w, St B w (mk g :: (X ++ hp)) → ∃ w', (execOp (a.put (some d) (newPtr g)).eval o).run P w = .ok .skip w' ∧ St B w' (mk' g :: (X ++ hp))
def MP (P : Program) (ops : Array Oper) (el : Ord) (B : Base) (hp : List Chunk) (Fn : News → List Chunk → Act → Prop) : List Oper → News → List Chunk → Act → Prop
  | [], news, wr, a => Fn news wr a
  | o :: rest, news, wr, a =>
    if Region.wanted o (yielded ops a.tmps) then
      (if cls o.op = .new then ∃ d mk, o.dst = some d ∧ MakesNew P B hp o a mk ∧ MP P ops el B hp Fn rest (news ++ [(d, mk)]) wr a
      else match iniOf el o with
      | some d => ∃ mk mk', getN news d = some mk ∧ Fills P B hp o a d mk mk' ∧ MP P ops el B hp Fn rest (setN news d mk') wr a
      | none => if isEl el o = true then ∃ v wr', (∀ X w, St B w (X ++ (wr ++ hp)) → effAt P o a (fun w' => St B w' (X ++ (wr' ++ hp))) w v) ∧ MP P ops el B hp Fn rest news wr' (a.put o.dst v)
      else ∃ v, (∀ X w, St B w (X ++ hp) → o.quietAt P a (fun w => St B w (X ++ hp)) w v) ∧ MP P ops el B hp Fn rest news wr (a.put o.dst v))
    else MP P ops el B hp Fn rest news wr (a.put o.dst undef)
def isElAt (el : Ord) (ops : Array Oper) (i : Nat) : Bool := match ops[i]? with
  | some o => isEl el o && !(decide (cls o.op = .new)) && (iniOf el o).isNone
  | none => false
def iniAt (el : Ord) (ops : Array Oper) (i : Nat) : Option Nat := match ops[i]? with
  | some o => iniOf el o
  | none => none
def isNewAt (ops : Array Oper) (i : Nat) : Bool := match ops[i]? with
  | some o => decide (cls o.op = .new)
  | none => false
def monoB (el : Ord) (ops : Array Oper) (k : Nat) : Bool :=
  ((List.range k).all fun j => match iniAt el ops j with
    | some d => (match ops[j]? with | some o => o.guard.isNone && o.dst.isNone && !(decide (cls o.op = .new)) | none => false) && ((List.range k).any fun i => decide (i < j) && isNewAt ops i && dstOf ops i == some d && bef ops j i) && ((List.range k).all fun j' => j' == j || iniAt el ops j' != some d)
    | none => true) &&
  ((List.range k).all fun j => (List.range k).all fun i => i == j || (!(isElAt el ops i) || !(isElAt el ops j) || ordB ops i j)) &&
  Region.noSelect ops && decide (k ≤ ops.size) &&
  ((List.range k).all fun j => (List.range k).all fun i => i == j || (
    match dstOf ops i with
      | some t => (!((match ops[j]? with | some o => (namesOf ops o).contains t | none => false)) || ((!(isNewAt ops i) || iniAt el ops j == some t) && ordB ops i j)) && (dstOf ops j != some t)
      | none => true)) &&
  ((List.range k).all fun j => match ops[j]? with
    | some o => (!(decide (cls o.op = .new)) || (o.guard.isNone && !((match o.dst with | some t => (namesOf ops o).contains t | none => false)))) && o.after.all fun e => !(Region.binds .any e) || decide (e.on < j)
    | none => true) &&
  (k == ops.size || (Region.sinkB .any ops k && Region.chainB .any ops k && Region.seqB .any ops (ops.size - k) k (Array.replicate k true ++ Array.replicate (ops.size - k) false)))
theorem monoB_spec {el : Ord} {k : Nat} (h : monoB el ops k = true) : (∀ j o d, j < k → ops[j]? = some o → iniOf el o = some d → o.guard = none ∧ o.dst = none ∧ cls o.op ≠ .new ∧ (∃ i, i < j ∧ isNewAt ops i = true ∧ dstOf ops i = some d ∧ bef ops j i = true) ∧ ∀ j', j' < k → j' ≠ j → iniAt el ops j' ≠ some d) ∧ (∀ i j, i < k → j < k → i ≠ j → isElAt el ops i = true → isElAt el ops j = true → ordB ops i j = true) ∧ Region.noSelect ops = true ∧ k ≤ ops.size ∧
    (∀ i j o t, i < k → j < k → ops[j]? = some o → i ≠ j → dstOf ops i = some t → t ∈ namesOf ops o → (isNewAt ops i = false ∨ iniOf el o = some t) ∧ ordB ops i j = true) ∧
    (∀ i j t, i < k → j < k → i ≠ j → dstOf ops i = some t → dstOf ops j ≠ some t) ∧
    (∀ j o, j < k → ops[j]? = some o → cls o.op = .new → o.guard = none ∧ ∀ t, o.dst = some t → t ∉ namesOf ops o) ∧
    (∀ j o, j < k → ops[j]? = some o → ∀ e ∈ o.after, Region.binds .any e = true → e.on < j) ∧
    (k = ops.size ∨ (Region.sinkB .any ops k = true ∧ Region.chainB .any ops k = true ∧ Region.seqB .any ops (ops.size - k) k (Array.replicate k true ++ Array.replicate (ops.size - k) false) = true)) := by
  simp only [monoB, Bool.and_eq_true, List.all_eq_true, List.mem_range, Bool.or_eq_true, beq_iff_eq, decide_eq_true_eq] at h
  obtain ⟨⟨⟨⟨⟨⟨hI, h0⟩, h1⟩, hk⟩, h2⟩, h3⟩, h4⟩ := h
  have hat : ∀ j o, j < k → ops[j]? = some o → ops[j]? = some o := fun _ _ _ h => h
  refine ⟨fun j o d hj ho hd => ?_, fun i j hi hj hne h5 h6 => ?_, h1, hk, fun i j o t hi hj ho hne hd ht => ?_, fun i j t hi hj hne hd => ?_, fun j o hj ho hc => ?_, fun j o hj ho e he hb => ?_, ?_⟩
  · have h5 := hI j hj
    simp only [iniAt, ho, hd, Bool.and_eq_true, List.all_eq_true, List.any_eq_true, List.mem_range, Bool.or_eq_true, beq_iff_eq, decide_eq_true_eq, bne_iff_ne, Bool.not_eq_true', decide_eq_false_iff_not] at h5
    obtain ⟨⟨⟨⟨h6, h7⟩, h8⟩, i, hi, ⟨⟨h9, h10⟩, h11⟩, h12⟩, h13⟩ := h5
    refine ⟨by simpa using h6, by simpa using h7, h8, ⟨i, h9, h10, h11, h12⟩, fun j' hj' hne => ?_⟩
    rcases h13 j' hj' with h | h
    · exact absurd h hne
    · exact h
  · rcases h0 j hj i hi with h | h
    · exact absurd h hne
    · simpa [h5, h6] using h
  · rcases h2 j hj i hi with h | h
    · exact absurd h hne
    · simp only [hd, ho, Bool.and_eq_true, Bool.or_eq_true, Bool.not_eq_true', beq_iff_eq] at h
      rcases h.1 with h | h
      · have : (namesOf ops o).contains t = true := by simpa using ht
        rw [this] at h; cases h
      · refine ⟨?_, h.2⟩
        rcases h.1 with h | h
        · exact .inl h
        · exact .inr (by simpa [iniAt, ho] using h)
  · rcases h2 j hj i hi with h | h
    · exact absurd h hne
    · simp only [hd, Bool.and_eq_true] at h
      simpa using h.2
  · have := h3 j hj
    simp only [ho, Bool.and_eq_true, Bool.or_eq_true] at this
    rcases this.1 with h | h
    · simp [hc] at h
    · refine ⟨by simpa using h.1, fun t ht hm => ?_⟩
      have h2 := h.2
      simp only [ht, Bool.not_eq_true'] at h2
      have : (namesOf ops o).contains t = true := by simpa using hm
      rw [this] at h2; cases h2
  · have := h3 j hj
    simp only [ho, Bool.and_eq_true, Array.all_eq_true_iff_forall_mem] at this
    have := this.2 e he
    simpa [hb] using this
  · rcases h4 with h | ⟨⟨h, h'⟩, h''⟩
    · exact .inl h
    · exact .inr ⟨h, h', h''⟩

/-- What the walk in the text's order found. -/
structure MPStep (P : Program) (ops : Array Oper) (el : Ord) (B : Base) (hp : List Chunk) (o : Oper) (a a' : Act) (v : Value) (mk : Nat → Chunk) (wr wr' : List Chunk) (nw nw' : News) : Prop where
  old : cls o.op ≠ .new → iniOf el o = none → isEl el o = false → a' = a.put o.dst v ∧ wr' = wr ∧ nw' = nw ∧ ((Region.wanted o (yielded ops a.tmps) = false ∧ v = undef) ∨ (Region.wanted o (yielded ops a.tmps) = true ∧ ∀ X w, St B w (X ++ hp) → o.quietAt P a (fun w => St B w (X ++ hp)) w v))
  eff : cls o.op ≠ .new → iniOf el o = none → isEl el o = true → a' = a.put o.dst v ∧ nw' = nw ∧ ((Region.wanted o (yielded ops a.tmps) = false ∧ v = undef ∧ wr' = wr) ∨ (Region.wanted o (yielded ops a.tmps) = true ∧ ∀ X w, St B w (X ++ (wr ++ hp)) → effAt P o a (fun w' => St B w' (X ++ (wr' ++ hp))) w v))
  new : cls o.op = .new → o.guard = none → a' = a ∧ wr' = wr ∧ MakesNew P B hp o a mk ∧ ∃ d, o.dst = some d ∧ nw' = nw ++ [(d, mk)]
  ini : ∀ d, cls o.op ≠ .new → iniOf el o = some d → o.guard = none → o.dst = none → a' = a ∧ wr' = wr ∧ nw' = setN nw d mk ∧ ∃ mk0, getN nw d = some mk0 ∧ Fills P B hp o a d mk0 mk
theorem MP.data {el : Ord} {Fn : News → List Chunk → Act → Prop} : ∀ (l : List Oper) (i : Nat) (news : News) (wr : List Chunk) (a : Act), (∀ o ∈ l, cls o.op = .new → o.guard = none) → (∀ o ∈ l, ∀ d, iniOf el o = some d → o.guard = none) → MP P ops el B hp Fn l news wr a → ∃ (A : Nat → Act) (V : Nat → Value) (K : Nat → Nat → Chunk) (R : Nat → List Chunk) (NW : Nat → News), A i = a ∧ R i = wr ∧ NW i = news ∧
    (∀ j o, l[j]? = some o → MPStep P ops el B hp o (A (i + j)) (A (i + j + 1)) (V (i + j)) (K (i + j)) (R (i + j)) (R (i + j + 1)) (NW (i + j)) (NW (i + j + 1))) ∧ Fn (NW (i + l.length)) (R (i + l.length)) (A (i + l.length)) := by
  intro l
  induction l with
  | nil => intro i news wr a _ _ h; exact ⟨fun _ => a, fun _ => undef, fun _ _ => cells 0 0 [], fun _ => wr, fun _ => news, rfl, rfl, rfl, fun j o ho => by simp at ho, by simpa [MP] using h⟩
  | cons o rest ih =>
    intro i news wr a hg hgi h
    have key : ∃ v mk a' wr' news', MP P ops el B hp Fn rest news' wr' a' ∧ MPStep P ops el B hp o a a' v mk wr wr' news news' := by
      unfold MP at h
      by_cases hc : cls o.op = .new
      · have hgo := hg o (by simp) hc
        have hin : iniOf el o = none := iniOf_none (by rw [hc]; simp)
        rw [if_pos (by simp [Region.wanted, hgo]), if_pos hc] at h
        obtain ⟨d, mk, hd, hmk, h⟩ := h
        exact ⟨undef, mk, a, wr, _, h, ⟨fun h => absurd hc h, fun h => absurd hc h, fun _ _ => ⟨rfl, rfl, hmk, d, hd, rfl⟩, fun d h => absurd hc h⟩⟩
      · cases hin : iniOf el o with
        | some d =>
          have hgo := hgi o (by simp) d hin
          rw [if_pos (by simp [Region.wanted, hgo]), if_neg hc, hin] at h
          obtain ⟨mk, mk', hget, hfill, h⟩ := h
          exact ⟨undef, mk', a, wr, _, h, ⟨fun _ h => (by rw [hin] at h; cases h), fun _ h => (by rw [hin] at h; cases h), fun h => absurd h hc, fun d' _ hd' _ _ => by
            obtain rfl := Option.some.inj (hin.symm.trans hd')
            exact ⟨rfl, rfl, rfl, mk, hget, hfill⟩⟩⟩
        | none =>
          by_cases hw : Region.wanted o (yielded ops a.tmps) = true
          · rw [if_pos hw, if_neg hc, hin] at h
            by_cases he : isEl el o = true
            · simp only [he, if_true] at h
              obtain ⟨v, wr', hv, h⟩ := h
              exact ⟨v, fun _ => cells 0 0 [], _, wr', _, h, ⟨fun _ _ h => (by rw [he] at h; cases h), fun _ _ _ => ⟨rfl, rfl, .inr ⟨hw, hv⟩⟩, fun h => absurd h hc, fun d _ h => by rw [hin] at h; cases h⟩⟩
            · have he' : isEl el o = false := by simpa using he
              simp only [he', Bool.false_eq_true, if_false] at h
              obtain ⟨v, hv, h⟩ := h
              exact ⟨v, fun _ => cells 0 0 [], _, wr, _, h, ⟨fun _ _ _ => ⟨rfl, rfl, rfl, .inr ⟨hw, hv⟩⟩, fun _ _ h => absurd h he, fun h => absurd h hc, fun d _ h => by rw [hin] at h; cases h⟩⟩
          · rw [if_neg hw] at h
            exact ⟨undef, fun _ => cells 0 0 [], _, wr, _, h, ⟨fun _ _ _ => ⟨rfl, rfl, rfl, .inl ⟨by simpa using hw, rfl⟩⟩, fun _ _ _ => ⟨rfl, rfl, .inl ⟨by simpa using hw, rfl, rfl⟩⟩, fun h => absurd h hc, fun d _ h => by rw [hin] at h; cases h⟩⟩
    obtain ⟨v, mk, a', wr', news', h2, hs⟩ := key
    obtain ⟨A, V, K, R, NW, hA, hR, hN, hst, hfin⟩ := ih (i + 1) news' wr' a' (fun o ho => hg o (List.mem_cons_of_mem _ ho)) (fun o ho => hgi o (List.mem_cons_of_mem _ ho)) h2
    have ne : ∀ j, i + 1 + j ≠ i := fun j => by omega
    refine ⟨fun k => if k = i then a else A k, fun k => if k = i then v else V k, fun k => if k = i then mk else K k, fun k => if k = i then wr else R k, fun k => if k = i then news else NW k, by simp, by simp, by simp, fun j o' ho => ?_, ?_⟩
    · cases j with
      | zero =>
        simp at ho
        subst ho
        simp only [Nat.add_zero, if_true, show i + 1 ≠ i by omega, if_false, hA, hR, hN]
        exact hs
      | succ j =>
        have := hst j o' (by simpa using ho)
        simp only [show i + (j + 1) = i + 1 + j by omega, show i + 1 + j + 1 ≠ i by omega, ne j, if_false]
        exact this
    · simp only [List.length_cons, show i + (rest.length + 1) = i + 1 + rest.length by omega, ne, if_false]
      exact hfin

/-- The store that fills the new block of operation i. -/
def iniIx (el : Ord) (ops : Array Oper) (k i : Nat) : Option Nat := match dstOf ops i with
  | some d => (List.range k).find? fun s => iniAt el ops s == some d
  | none => none
/-- What stands in the new block of operation i. -/
def CH (el : Ord) (ops : Array Oper) (k : Nat) (K : Nat → Nat → Chunk) (done : Nat → Bool) (i : Nat) : Nat → Chunk := match iniIx el ops k i with
  | some s => if done s = true then K s else K i
  | none => K i
theorem CH_congr {el : Ord} {k : Nat} {K : Nat → Nat → Chunk} {d d' : Nat → Bool} {i : Nat} (h : ∀ s, iniIx el ops k i = some s → d s = d' s) : CH el ops k K d i = CH el ops k K d' i := by
  unfold CH
  cases e : iniIx el ops k i with
  | none => rfl
  | some s => simp only [h s e]
theorem iniIx_some {el : Ord} {k i s : Nat} (h : iniIx el ops k i = some s) : s < k ∧ ∃ d, dstOf ops i = some d ∧ iniAt el ops s = some d := by
  unfold iniIx at h
  cases hd : dstOf ops i with
  | none => simp [hd] at h
  | some d =>
    simp only [hd] at h
    exact ⟨List.mem_range.1 (List.mem_of_find?_eq_some h), d, rfl, by simpa using List.find?_some h⟩
theorem iniIx_eq {el : Ord} {k i s d : Nat} (hd : dstOf ops i = some d) (hs : s < k) (hi : iniAt el ops s = some d) (hu : ∀ j', j' < k → j' ≠ s → iniAt el ops j' ≠ some d) : iniIx el ops k i = some s := by
  unfold iniIx
  simp only [hd]
  cases hf : (List.range k).find? fun s => iniAt el ops s == some d with
  | none =>
    have := List.find?_eq_none.1 hf s (List.mem_range.2 hs)
    simp [hi] at this
  | some s' =>
    have h1 := List.mem_range.1 (List.mem_of_find?_eq_some hf)
    have h2 : iniAt el ops s' = some d := by simpa using List.find?_some hf
    by_cases e : s' = s
    · rw [e]
    · exact absurd h2 (hu s' h1 e)

section
variable {el : Ord} {k : Nat} {A : Nat → Act} {V : Nat → Value} {K : Nat → Nat → Chunk} {R : Nat → List Chunk} {NW : Nat → News}
/-- What holds whatever has been carried out so far. -/
structure UJ (el : Ord) (B : Base) (hp : List Chunk) (ops : Array Oper) (k : Nat) (A : Nat → Act) (K : Nat → Nat → Chunk) (R : Nat → List Chunk) (listed : Array Bool) (a : Act) (w : World) : Prop where
  inv : HeadInv .any ops k listed
  asize : a.tmps.size = (A 0).tmps.size
  defers : a.defers = (A 0).defers
  done : ∀ i t, i < k → isNewAt ops i = false → dstOf ops i = some t → listed.getD i false = true → a.tmps[t]? = (A (i + 1)).tmps[t]?
  todo : ∀ t, (∀ i, i < k → dstOf ops i = some t → listed.getD i false = false) → a.tmps[t]? = (A 0).tmps[t]?
  news : ∃ (N : List Nat) (γ : Nat → Nat), N.Nodup ∧ (∀ i, i ∈ N ↔ i < k ∧ isNewAt ops i = true ∧ listed.getD i false = true) ∧ (∀ i ∈ N, ∀ t, dstOf ops i = some t → t < (A 0).tmps.size → a.tmps[t]? = some (newPtr (γ i))) ∧ ∃ m, (∀ i, i < k → isElAt el ops i = true → (listed.getD i false = true ↔ i < m)) ∧ m ≤ k ∧ St B w (N.map (fun i => CH el ops k K (fun s => listed.getD s false) i (γ i)) ++ (R m ++ hp))
variable (hB : monoB el ops k = true) (hst : ∀ j o, j < k → ops[j]? = some o → MPStep P ops el B hp o (A j) (A (j + 1)) (V j) (K j) (R j) (R (j + 1)) (NW j) (NW (j + 1)))
include hB hst
theorem UA_put {j : Nat} {o : Oper} (hj : j < k) (ho : ops[j]? = some o) (hc : cls o.op ≠ .new) : A (j + 1) = (A j).put o.dst (V j) := by
  have hs := hst j o hj ho
  cases hin : iniOf el o with
  | some d =>
    have h1 := (monoB_spec hB).1 j o d hj ho hin
    rw [(hs.ini d hc hin h1.1 h1.2.1).1, h1.2.1]
    rfl
  | none =>
    cases he : isEl el o with
    | false => exact (hs.old hc hin he).1
    | true => exact (hs.eff hc hin he).1
theorem UA_step {j : Nat} {o : Oper} (hj : j < k) (ho : ops[j]? = some o) : (A (j + 1)).tmps.size = (A j).tmps.size ∧ (A (j + 1)).defers = (A j).defers ∧ ∀ t, (isNewAt ops j = true ∨ dstOf ops j ≠ some t) → (A (j + 1)).tmps[t]? = (A j).tmps[t]? := by
  have hs := hst j o hj ho
  by_cases hc : cls o.op = .new
  · have h1 := (monoB_spec hB).2.2.2.2.2.2.1 j o hj ho hc
    rw [(hs.new hc h1.1).1]
    exact ⟨rfl, rfl, fun _ _ => rfl⟩
  · rw [UA_put hB hst hj ho hc]
    refine ⟨put_size _ _ _, put_defers _ _ _, fun t ht => put_ne _ (fun hd => ?_) _⟩
    rcases ht with h | h
    · simp [isNewAt, ho, hc] at h
    · exact h (by simp [dstOf, ho, hd])
theorem UA_size {m : Nat} (hm : m ≤ k) : (A m).tmps.size = (A 0).tmps.size ∧ (A m).defers = (A 0).defers := by
  have hk := (monoB_spec hB).2.2.2.1
  induction m with
  | zero => exact ⟨rfl, rfl⟩
  | succ m ih =>
    obtain ⟨h1, h2⟩ := ih (by omega)
    have hs := UA_step hB hst (j := m) (by omega) (Array.getElem?_eq_getElem (by omega))
    exact ⟨hs.1.trans h1, hs.2.1.trans h2⟩
theorem UA_keep {t : Tmp} {i m : Nat} (him : i ≤ m) (hm : m ≤ k) (h : ∀ j, i ≤ j → j < m → isNewAt ops j = true ∨ dstOf ops j ≠ some t) : (A m).tmps[t]? = (A i).tmps[t]? := by
  have hk := (monoB_spec hB).2.2.2.1
  induction m with
  | zero => have : i = 0 := by omega
            subst this; rfl
  | succ m ih =>
    by_cases e : i = m + 1
    · subst e; rfl
    · have hs := UA_step hB hst (j := m) (by omega) (Array.getElem?_eq_getElem (by omega))
      rw [hs.2.2 t (h m (by omega) (by omega))]
      exact ih (by omega) (by omega) fun j h1 h2 => h j h1 (by omega)
theorem R_keep {i m : Nat} (him : i ≤ m) (hm : m ≤ k) (h : ∀ j, i ≤ j → j < m → isElAt el ops j = false) : R m = R i := by
  have hk := (monoB_spec hB).2.2.2.1
  induction m with
  | zero => have : i = 0 := by omega
            subst this; rfl
  | succ m ih =>
    by_cases e : i = m + 1
    · subst e; rfl
    · have ho : ops[m]? = some ops[m] := Array.getElem?_eq_getElem (by omega)
      have hs := hst m _ (by omega) ho
      have h1 := h m (by omega) (by omega)
      have h2 := ih (by omega) (by omega) fun j h3 h4 => h j h3 (by omega)
      rw [← h2]
      by_cases hc : cls ops[m].op = .new
      · exact (hs.new hc ((monoB_spec hB).2.2.2.2.2.2.1 m _ (by omega) ho hc).1).2.1
      · cases hin : iniOf el ops[m] with
        | some d =>
          have h3 := (monoB_spec hB).1 m _ d (by omega) ho hin
          exact (hs.ini d hc hin h3.1 h3.2.1).2.1
        | none =>
          have he : isEl el ops[m] = false := by simpa [isElAt, ho, hc, hin] using h1
          exact (hs.old hc hin he).2.1
/-- The new blocks told by the walk, at each of its steps. -/
theorem NW_eq (h0 : NW 0 = []) {m : Nat} (hm : m ≤ k) : NW m = ((List.range m).filter (isNewAt ops)).map fun i => ((dstOf ops i).getD 0, CH el ops k K (fun s => decide (s < m)) i) := by
  obtain ⟨hini, heff, hsel, hk, hnames, huniq, hnew, _, _⟩ := monoB_spec hB
  induction m with
  | zero => simpa using h0
  | succ m ih =>
    have ih := ih (by omega)
    have hmk : m < k := by omega
    have ho : ops[m]? = some ops[m] := Array.getElem?_eq_getElem (by omega)
    have hs := hst m _ hmk ho
    rw [List.range_succ, List.filter_append, List.map_append]
    -- an operation that fills nothing
    have same : iniAt el ops m = none → ∀ i, CH el ops k K (fun s => decide (s < m + 1)) i = CH el ops k K (fun s => decide (s < m)) i := fun hn i => CH_congr fun s hs' => by
      obtain ⟨h1, d, h2, h3⟩ := iniIx_some hs'
      have : s ≠ m := fun e => by subst e; rw [hn] at h3; cases h3
      simp only [decide_eq_decide]
      omega
    by_cases hc : cls ops[m].op = .new
    · have hn : iniAt el ops m = none := by simp only [iniAt, ho]; exact iniOf_none (by rw [hc]; simp)
      obtain ⟨_, _, _, d, hd, hN⟩ := hs.new hc (hnew m _ hmk ho hc).1
      have hnn : isNewAt ops m = true := by simp [isNewAt, ho, hc]
      have hdm : dstOf ops m = some d := by simp [dstOf, ho, hd]
      rw [hN, ih]
      have e1 : List.filter (isNewAt ops) [m] = [m] := by simp [hnn]
      rw [e1]
      have e2 : CH el ops k K (fun s => decide (s < m + 1)) m = K m := by
        unfold CH
        cases e : iniIx el ops k m with
        | none => rfl
        | some s =>
          obtain ⟨h1, d', h2, h3⟩ := iniIx_some e
          have hso : ops[s]? = some ops[s] := Array.getElem?_eq_getElem (by omega)
          obtain ⟨_, _, _, ⟨i', h4, h5, h6, _⟩, _⟩ := hini s _ d' h1 hso (by simpa [iniAt, hso] using h3)
          have : i' = m := Classical.byContradiction fun hne => huniq i' m d' (by omega) hmk hne h6 h2
          have hlt : ¬ s < m + 1 := by omega
          simp [hlt]
      simp only [List.map_cons, List.map_nil, hdm, Option.getD_some, e2]
      congr 1
      exact List.map_congr_left fun i _ => by rw [same hn i]
    · have hnn : isNewAt ops m = false := by simp [isNewAt, ho, hc]
      have e1 : List.filter (isNewAt ops) [m] = [] := by simp [hnn]
      rw [e1, List.map_nil, List.append_nil]
      cases hin : iniOf el ops[m] with
      | none =>
        have hn : iniAt el ops m = none := by simp only [iniAt, ho]; exact hin
        have hN : NW (m + 1) = NW m := by
          cases he : isEl el ops[m] with
          | false => exact (hs.old hc hin he).2.2.1
          | true => exact (hs.eff hc hin he).2.1
        rw [hN, ih]
        exact List.map_congr_left fun i _ => by rw [same hn i]
      | some d =>
        obtain ⟨hg, hdn, _, ⟨i0, hi0, hi0n, hi0d, _⟩, hu⟩ := hini m _ d hmk ho hin
        have hia : iniAt el ops m = some d := by simp only [iniAt, ho]; exact hin
        rw [(hs.ini d hc hin hg hdn).2.2.1, ih]
        unfold setN
        rw [List.map_map]
        refine List.map_congr_left fun i hi => ?_
        have him := List.mem_range.1 (List.mem_filter.1 hi).1
        have hin' : isNewAt ops i = true := (List.mem_filter.1 hi).2
        simp only [Function.comp]
        by_cases hdi : dstOf ops i = some d
        · simp only [hdi, Option.getD_some, beq_self_eq_true, cond_true]
          have hx := iniIx_eq hdi hmk hia hu
          unfold CH
          simp [hx]
        · have hne : ((dstOf ops i).getD 0 == d) = false := by
            cases hdd : dstOf ops i with
            | none =>
              exfalso
              have hoi : ops[i]? = some ops[i] := Array.getElem?_eq_getElem (by omega)
              have hci : cls ops[i].op = .new := by simpa [isNewAt, hoi] using hin'
              obtain ⟨_, _, _, d', hd', _⟩ := (hst i _ (by omega) hoi).new hci (hnew i _ (by omega) hoi hci).1
              simp [dstOf, hoi, hd'] at hdd
            | some d' =>
              rw [hdd] at hdi
              simp only [Option.getD_some]
              cases hb : d' == d with
              | false => rfl
              | true => exact absurd (by rw [eq_of_beq hb]) hdi
          rw [hne]
          simp only [cond_false]
          rw [CH_congr (d' := fun s => decide (s < m + 1)) fun s hs' => by
            obtain ⟨h1, d', h2, h3⟩ := iniIx_some hs'
            have : s ≠ m := fun e => by
              subst e
              rw [hia] at h3
              exact hdi (by rw [h2, h3])
            simp only [decide_eq_decide]
            omega]
omit hB hst in
theorem dir_spec {j i : Nat} {o : Oper} (ho : ops[j]? = some o) (h : dir ops j i = true) : ∃ e ∈ o.after, Region.binds .any e = true ∧ e.on = i := by
  unfold dir at h
  simp only [ho] at h
  obtain ⟨e, he, hb⟩ := Array.any_eq_true'.1 h
  simp only [Bool.and_eq_true, beq_iff_eq] at hb
  exact ⟨e, he, hb.1, hb.2⟩
omit hB hst in
theorem UJ.closed {listed : Array Bool} {a : Act} {w : World} (hJ : UJ el B hp ops k A K R listed a w) : ∀ j, listed.getD j false = true → ∀ i, dir ops j i = true → listed.getD i false = true := fun j hj i hi => by
  cases ho : ops[j]? with
  | none => simp [dir, ho] at hi
  | some o =>
    obtain ⟨e, he, hb, hon⟩ := dir_spec ho hi
    rw [← hon]
    exact hJ.inv.closed j o ho hj e he hb
theorem UJ.sees {listed : Array Bool} {a : Act} {w : World} (hJ : UJ el B hp ops k A K R listed a w) {j : Nat} {o : Oper} (hj : j < k) (ho : ops[j]? = some o) (hun : listed.getD j false = false) (hdeps : ∀ i, dir ops j i = true → listed.getD i false = true) :
    (∀ t ∈ o.looksAt ops, iniOf el o ≠ some t → a.tmps[t]? = (A j).tmps[t]?) ∧ (isElAt el ops j = true → (∀ i, i < k → isElAt el ops i = true → (listed.getD i false = true ↔ i < j)) ∧ ∀ m, (∀ i, i < k → isElAt el ops i = true → (listed.getD i false = true ↔ i < m)) → m ≤ k → R m = R j) := by
  obtain ⟨hini, heff, _, hk, hnames, huniq, hnew, _, _⟩ := monoB_spec hB
  have hcl := UJ.closed hJ
  have hord : ∀ i, i < k → i ≠ j → ordB ops i j = true → (listed.getD i false = true ↔ i < j) := fun i hi hne h => by
    unfold ordB at h
    by_cases hij : i < j
    · rw [if_pos hij] at h
      exact ⟨fun _ => hij, fun _ => bef_listed hcl (j + 1) j (by omega) hdeps h⟩
    · rw [if_neg hij] at h
      refine ⟨fun hl => ?_, fun h => absurd h hij⟩
      rw [bef_listed hcl (i + 1) i (by omega) (hcl i hl) h] at hun
      cases hun
  refine ⟨?_, fun hp => ?_⟩
  rotate_left
  · have h1 : ∀ i, i < k → isElAt el ops i = true → (listed.getD i false = true ↔ i < j) := fun i hi he => by
      by_cases hij : i = j
      · subst hij
        rw [hun]
        simp
      · exact hord i hi hij (heff i j hi hj hij he hp)
    refine ⟨h1, fun m hm hmk => ?_⟩
    have h2 : ∀ i, i < k → isElAt el ops i = true → (i < m ↔ i < j) := fun i hi he => (hm i hi he).symm.trans (h1 i hi he)
    rcases Nat.le_total m j with hle | hle
    · exact (R_keep hB hst hle (by omega) fun i h3 h4 => by
        cases he : isElAt el ops i with
        | false => rfl
        | true => have := (h2 i (by omega) he).2 h4; omega).symm
    · exact R_keep hB hst hle hmk fun i h3 h4 => by
        cases he : isElAt el ops i with
        | false => rfl
        | true => have := (h2 i (by omega) he).1 h4; omega
  intro t ht hnt
  by_cases hw : ∃ i, i < k ∧ dstOf ops i = some t
  · obtain ⟨i, hi, hdi⟩ := hw
    have others : ∀ m, m < k → m ≠ i → dstOf ops m ≠ some t := fun m hm hne => huniq i m t hi hm (Ne.symm hne) hdi
    by_cases hij : i = j
    · subst hij
      rw [hJ.todo t fun m hm hd => by
        by_cases e : m = i
        · rw [e]; exact hun
        · exact absurd hd (others m hm e)]
      exact (UA_keep hB hst (Nat.zero_le _) (by omega) fun m _ h2 => .inr (others m (by omega) (by omega))).symm
    · obtain ⟨hnn, hoo⟩ := hnames i j o t hi hj ho hij hdi ht
      have hnn := hnn.resolve_right hnt
      have h1 := hord i hi hij hoo
      by_cases hl : listed.getD i false = true
      · have hlt := h1.1 hl
        rw [hJ.done i t hi hnn hdi hl]
        exact (UA_keep hB hst (by omega) (by omega) fun m h3 h4 => .inr (others m (by omega) (by omega))).symm
      · have hge : ¬ i < j := fun h => hl (h1.2 h)
        rw [hJ.todo t fun m hm hd => by
          by_cases e : m = i
          · rw [e]; simpa using hl
          · exact absurd hd (others m hm e)]
        exact (UA_keep hB hst (Nat.zero_le _) (by omega) fun m _ h2 => .inr (others m (by omega) (by omega))).symm
  · have hw' : ∀ i, i < k → dstOf ops i ≠ some t := fun i hi hd => hw ⟨i, hi, hd⟩
    rw [hJ.todo t fun i hi hd => absurd hd (hw' i hi)]
    exact (UA_keep hB hst (Nat.zero_le _) (by omega) fun m _ h2 => .inr (hw' m (by omega))).symm

theorem UJ.sound {Q : Exit → Act → World → Prop} (hNW0 : NW 0 = [])
    (hfin : ∀ (listed : Array Bool) (a : Act) (w : World), UJ el B hp ops k A K R listed a w → (∀ i, i < k → listed.getD i false = true) → if k = ops.size then Q .normal a w else wpList P ops Q (ops.toList.drop k) a w) :
    ∀ (m : Nat) (H : List Nat) (listed : Array Bool) (a : Act) (w : World), H.length = m → H.Nodup → UJ el B hp ops k A K R listed a w → (∀ i, i ∈ H ↔ i < k ∧ listed.getD i false = false) → wpAny P .any ops Q (m + (ops.size - k)) listed a w := by
  obtain ⟨hini, heff, hsel, hk, hnames, huniq, hnew, hlow, htail⟩ := monoB_spec hB
  have ready_mem : ∀ (listed : Array Bool) (a : Act) (w : World), UJ el B hp ops k A K R listed a w → ∀ n i, i < n → i < k → listed.getD i false = false → ∃ j, j < k ∧ j ∈ Region.ready .any ops listed := by
    intro listed a w hJ n
    induction n with
    | zero => intro i h; omega
    | succ n ih =>
      intro i hin hi hl
      by_cases hall : ∀ m, m < i → listed.getD m false = true
      · refine ⟨i, hi, ?_⟩
        rw [mem_ready]
        exact ⟨getD_in (by rw [hJ.inv.size]; omega) hl, ops[i], Array.getElem?_eq_getElem (by omega), fun e he hb => hall _ (hlow i _ hi (Array.getElem?_eq_getElem (by omega)) e he hb)⟩
      · have : ∃ m, m < i ∧ listed.getD m false = false := Classical.byContradiction fun hc => hall fun m hm => by
          cases h : listed.getD m false with
          | true => rfl
          | false => exact absurd ⟨m, hm, h⟩ hc
        obtain ⟨m, hm, hl'⟩ := this
        exact ih m (by omega) (by omega) hl'
  intro m
  induction m with
  | zero =>
    intro H listed a w hn _ hJ hH
    have hnil : H = [] := List.eq_nil_of_length_eq_zero hn
    subst hnil
    have hall : ∀ i, i < k → listed.getD i false = true := fun i hi => by
      cases h : listed.getD i false with
      | true => rfl
      | false => exact absurd ((hH i).2 ⟨hi, h⟩) (by simp)
    have hf := hfin listed a w hJ hall
    rw [Nat.zero_add]
    by_cases he : k = ops.size
    · rw [if_pos he] at hf
      rw [← he, Nat.sub_self]
      have hr : Region.ready .any ops listed = [] := by
        cases hr : Region.ready .any ops listed with
        | nil => rfl
        | cons j r =>
          have hm : j ∈ Region.ready .any ops listed := by rw [hr]; simp
          obtain ⟨h0, o, ho, _⟩ := mem_ready.1 hm
          have hlt := (Array.getElem?_eq_some_iff.1 ho).1
          have := hall j (by omega)
          rw [getD_tf h0] at this
          cases this
      exact ⟨hr, hf⟩
    · rw [if_neg he] at hf
      rcases htail with h | ⟨_, _, hseq⟩
      · exact absurd h he
      have hl : listed = Array.replicate k true ++ Array.replicate (ops.size - k) false := by
        apply Array.ext
        · simp [hJ.inv.size]; omega
        · intro i h1 h2
          rcases Nat.lt_or_ge i k with h | h
          · have := hall i h
            simp only [Array.getD_eq_getD_getElem?, Array.getElem?_eq_getElem h1, Option.getD_some] at this
            rw [this, Array.getElem_append_left (by simpa using h)]
            simp
          · have := hJ.inv.tail i h (by rw [← hJ.inv.size]; exact h1)
            simp only [Array.getD_eq_getD_getElem?, Array.getElem?_eq_getElem h1, Option.getD_some] at this
            rw [this, Array.getElem_append_right (by simpa using h)]
            simp
      have hlen : (ops.toList.drop k).length = ops.size - k := by simp
      rw [← hlen]
      refine wpAny_of_seq (ops.toList.drop k) k listed a w (fun j => by simp) ?_ hf
      rw [hlen, hl]
      exact hseq
  | succ m ih =>
    intro H listed a w hn hnd hJ hH
    have hex : ∃ i, i ∈ H := by
      cases H with
      | nil => simp at hn
      | cons i r => exact ⟨i, by simp⟩
    obtain ⟨i0, hi0⟩ := hex
    obtain ⟨hi0k, hi0l⟩ := (hH i0).1 hi0
    obtain ⟨j0, hj0k, hj0⟩ := ready_mem listed a w hJ (i0 + 1) i0 (by omega) hi0k hi0l
    rw [show m + 1 + (ops.size - k) = (m + (ops.size - k)) + 1 by omega]
    refine ⟨fun hr => (by rw [hr] at hj0; cases hj0), fun j hj => ?_⟩
    have hjk : j < k := by
      rcases Nat.lt_or_ge j k with h | h
      · exact h
      · obtain ⟨_, o, ho, _⟩ := mem_ready.1 hj
        have hlt := (Array.getElem?_eq_some_iff.1 ho).1
        rcases htail with he | ⟨hs, hc, _⟩
        · omega
        · exact absurd hj (tail_waits hs hc (by omega) hJ.inv _ i0 rfl hi0k (getD_in (by rw [hJ.inv.size]; omega) hi0l) j h)
    obtain ⟨h0, o, ho, hafter⟩ := mem_ready.1 hj
    have hun := getD_tf h0
    have hdeps : ∀ i, dir ops j i = true → listed.getD i false = true := fun i hi => by
      obtain ⟨e, he, hb, hon⟩ := dir_spec ho hi
      rw [← hon]
      exact hafter e he hb
    obtain ⟨hslots, hph⟩ := UJ.sees hB hst hJ hjk ho hun hdeps
    have hs := hst j o hjk ho
    have hjH : j ∈ H := (hH j).2 ⟨hjk, hun⟩
    have hjl : j < listed.size := by rw [hJ.inv.size]; omega
    have hdo : dstOf ops j = o.dst := by simp [dstOf, ho]
    have hclosed := UJ.closed hJ
    have cont : ∀ (v : Value) (w' : World), UJ el B hp ops k A K R (listed.setIfInBounds j true) (a.put o.dst v) w' → wpAny P .any ops Q (m + (ops.size - k)) (listed.setIfInBounds j true) (a.put o.dst v) w' := fun v w' hJ' => by
      refine ih (H.erase j) _ _ _ (by rw [List.length_erase_of_mem hjH]; omega) (hnd.erase j) hJ' fun i => ?_
      rw [hnd.mem_erase_iff, hH i]
      by_cases e : i = j
      · subst e; rw [getD_set_self hjl]; simp
      · rw [getD_set_ne' (Ne.symm e)]; simp [e]
    have hinv : HeadInv .any ops k (listed.setIfInBounds j true) := hJ.inv.set hj hjk
    obtain ⟨N, γ, hNd, hNm, hNs, m0, hm0, hm0k, hNS⟩ := hJ.news
    -- an operation that makes nothing new
    have stay : ∀ (v : Value) (w' : World), v = V j → cls o.op ≠ .new → (∃ m, (∀ i, i < k → isElAt el ops i = true → ((listed.setIfInBounds j true).getD i false = true ↔ i < m)) ∧ m ≤ k ∧ St B w' (N.map (fun i => CH el ops k K (fun s => (listed.setIfInBounds j true).getD s false) i (γ i)) ++ (R m ++ hp))) → UJ el B hp ops k A K R (listed.setIfInBounds j true) (a.put o.dst v) w' := fun v w' hv hc hS => by
      subst hv
      have hnn : isNewAt ops j = false := by simp [isNewAt, ho, hc]
      refine ⟨hinv, (put_size _ _ _).trans hJ.asize, (put_defers _ _ _).trans hJ.defers, fun i t hi hin hdi hl => ?_, fun t h => ?_, N, γ, hNd, fun i => ?_, fun i hi t hdi hts => ?_, hS⟩
      · by_cases hij : j = i
        · subst hij
          rw [UA_put hB hst hjk ho hc]
          have : o.dst = some t := hdo.symm.trans hdi
          rw [this]
          exact put_self (hJ.asize.trans (UA_size hB hst (by omega)).1.symm) _
        · rw [getD_set_ne' hij] at hl
          rw [put_ne _ (fun hd => huniq i j t hi hjk (Ne.symm hij) hdi (hdo.trans hd))]
          exact hJ.done i t hi hin hdi hl
      · rw [put_ne _ (fun hd => by
          have := h j hjk (hdo.trans hd)
          rw [getD_set_self hjl] at this
          cases this)]
        refine hJ.todo t fun i hi hdi => ?_
        have := h i hi hdi
        by_cases hij : j = i
        · subst hij; exact hun
        · rwa [getD_set_ne' hij] at this
      · rw [hNm i]
        by_cases hij : j = i
        · subst hij; simp [hnn]
        · rw [getD_set_ne' hij]
      · have hi' := (hNm i).1 hi
        have hij : j ≠ i := fun e => by subst e; rw [hnn] at hi'; cases hi'.2.1
        rw [put_ne _ (fun hd => huniq i j t hi'.1 hjk (Ne.symm hij) hdi (hdo.trans hd))]
        exact hNs i hi t hdi hts
    -- what stands in the new blocks does not turn but by the store that fills it
    have chk : iniAt el ops j = none → N.map (fun i => CH el ops k K (fun s => (listed.setIfInBounds j true).getD s false) i (γ i)) = N.map (fun i => CH el ops k K (fun s => listed.getD s false) i (γ i)) := fun hn => List.map_congr_left fun i _ => by
      rw [CH_congr fun s hs' => ?_]
      obtain ⟨_, d, _, h3⟩ := iniIx_some hs'
      have : j ≠ s := fun e => by subst e; rw [hn] at h3; cases h3
      exact getD_set_ne' this
    unfold wpOp
    simp only [ho]
    cases hin : iniOf el o with
    | some d =>
      obtain ⟨hg, hdn, hc, ⟨i0, hi0, hi0n, hi0d, hi0b⟩, hu⟩ := hini j o d hjk ho hin
      have hia : iniAt el ops j = some d := by simp only [iniAt, ho]; exact hin
      obtain ⟨hAA, hRR, hNN, mk0, hget, hfill⟩ := hs.ini d hc hin hg hdn
      rw [if_pos (by simp [Region.wanted, hg])]
      refine .inl ?_
      unfold Oper.wp
      have hli0 : listed.getD i0 false = true := bef_listed hclosed (j + 1) j (by omega) hdeps hi0b
      have hi0N : i0 ∈ N := (hNm i0).2 ⟨by omega, hi0n, hli0⟩
      have hsz : (A j).tmps.size = (A 0).tmps.size := (UA_size hB hst (by omega)).1
      have hslot : ∀ t ∈ o.looksAt ops, a.tmps[t]? = ((A j).put (some d) (newPtr (γ i0))).tmps[t]? := fun t ht => by
        by_cases e : t = d
        · subst e
          by_cases hlt : t < (A 0).tmps.size
          · rw [hNs i0 hi0N t hi0d hlt]
            simp [Act.put, hsz, hlt]
          · rw [Array.getElem?_eq_none (by rw [hJ.asize]; exact Nat.le_of_not_lt hlt), Array.getElem?_eq_none (by rw [put_size, hsz]; exact Nat.le_of_not_lt hlt)]
        · rw [put_ne _ (fun h => e (Option.some.inj h).symm)]
          exact hslots t ht (fun h => e (Option.some.inj (h.symm.trans hin)))
      obtain ⟨hops, _⟩ := eval_of_slots o hslot
      have hexe : execOp a.eval o = execOp ((A j).put (some d) (newPtr (γ i0))).eval o := execOp_congr o (fun cs b => Region.noSelect_spec hsel j o cs b ho) hops
      rw [hexe]
      have hx := iniIx_eq hi0d hjk hia hu
      have hmk0 : mk0 = K i0 := by
        have h1 := NW_eq hB hst hNW0 (m := j) (by omega)
        rw [h1] at hget
        unfold getN at hget
        rw [Option.map_eq_some_iff] at hget
        obtain ⟨p, hp1, hp2⟩ := hget
        have hpm := List.mem_of_find?_eq_some hp1
        obtain ⟨i, hi, rfl⟩ := List.mem_map.1 hpm
        have hpd : (dstOf ops i).getD 0 = d := by simpa using List.find?_some hp1
        have hij := List.mem_range.1 (List.mem_filter.1 hi).1
        have hin' : isNewAt ops i = true := (List.mem_filter.1 hi).2
        have hdi : dstOf ops i = some d := by
          have hoi : ops[i]? = some ops[i] := Array.getElem?_eq_getElem (by omega)
          have hci : cls ops[i].op = .new := by simpa [isNewAt, hoi] using hin'
          obtain ⟨_, _, _, d', hd', _⟩ := (hst i _ (by omega) hoi).new hci (hnew i _ (by omega) hoi hci).1
          have : dstOf ops i = some d' := by simp [dstOf, hoi, hd']
          rw [this] at hpd ⊢
          simp at hpd
          rw [hpd]
        have : i = i0 := Classical.byContradiction fun hne => huniq i i0 d (by omega) (by omega) hne hdi hi0d
        subst this
        rw [← hp2]
        simp only [CH, hx]
        have hlt : ¬ j < j := by omega
        simp [hlt]
      have e0 : CH el ops k K (fun s => listed.getD s false) i0 = K i0 := by simp [CH, hx, hun]
      have e1 : CH el ops k K (fun s => (listed.setIfInBounds j true).getD s false) i0 = K j := by
        have h1 : (listed.setIfInBounds j true)[j]?.getD false = true := by have := getD_set_self hjl; simpa using this
        simp [CH, hx, h1]
      have eo : (N.erase i0).map (fun i => CH el ops k K (fun s => (listed.setIfInBounds j true).getD s false) i (γ i)) = (N.erase i0).map (fun i => CH el ops k K (fun s => listed.getD s false) i (γ i)) := List.map_congr_left fun i hi => by
        rw [CH_congr fun s hs' => ?_]
        have hiN := (hNd.mem_erase_iff.1 hi)
        obtain ⟨_, d', h2, h3⟩ := iniIx_some hs'
        have : j ≠ s := fun e => by
          subst e
          rw [hia] at h3
          obtain rfl := Option.some.inj h3
          exact huniq i i0 d ((hNm i).1 hiN.2).1 (by omega) hiN.1 h2 hi0d
        exact getD_set_ne' this
      have hperm := List.perm_cons_erase hi0N
      have hS1 : St B w (mk0 (γ i0) :: (((N.erase i0).map (fun i => CH el ops k K (fun s => listed.getD s false) i (γ i)) ++ R m0) ++ hp)) := by
        refine hNS.perm ?_
        rw [hmk0, ← e0, List.append_assoc]
        exact List.Perm.append_right _ (hperm.map fun i => CH el ops k K (fun s => listed.getD s false) i (γ i))
      obtain ⟨w', he, hS'⟩ := hfill.2 (γ i0) _ w hS1
      rw [he]
      have hv : ∀ u v : Value, a.put o.dst u = a.put o.dst v := fun _ _ => by rw [hdn]; rfl
      show wpAny P .any ops Q (m + (ops.size - k)) (listed.setIfInBounds j true) (a.put o.dst undef) w'
      rw [hv undef (V j)]
      refine cont _ _ (stay _ _ rfl hc ⟨m0, fun i hi hie => ?_, hm0k, ?_⟩)
      · have hij : j ≠ i := fun e => by
          subst e
          simp [isElAt, ho, hin] at hie
        rw [getD_set_ne' hij]
        exact hm0 i hi hie
      · refine hS'.perm ?_
        rw [List.append_assoc, ← eo, ← e1]
        exact (List.Perm.append_right _ (hperm.map fun i => CH el ops k K (fun s => (listed.setIfInBounds j true).getD s false) i (γ i))).symm
    | none =>
    obtain ⟨hops, hwant⟩ := eval_of_slots o (fun t ht => hslots t ht (by rw [hin]; simp))
    have hexe : execOp a.eval o = execOp (A j).eval o := execOp_congr o (fun cs b => Region.noSelect_spec hsel j o cs b ho) hops
    have hn0 : iniAt el ops j = none := by simp only [iniAt, ho]; exact hin
    have chk := chk hn0
    rw [hwant]
    by_cases hc : cls o.op = .new
    · obtain ⟨hg, hgd⟩ := hnew j o hjk ho hc
      obtain ⟨hAA, hRR, hmk, d, hd, _⟩ := hs.new hc hg
      rw [if_pos (by simp [Region.wanted, hg])]
      refine .inl ?_
      unfold Oper.wp
      rw [hexe]
      obtain ⟨w', he, hS'⟩ := hmk (N.map (fun i => CH el ops k K (fun s => listed.getD s false) i (γ i)) ++ R m0) w (by rw [List.append_assoc]; exact hNS)
      rw [List.append_assoc] at hS'
      rw [he]
      refine cont _ _ ?_
      have hnn : isNewAt ops j = true := by simp [isNewAt, ho, hc]
      have hjN : j ∉ N := fun h => by rw [((hNm j).1 h).2.2] at hun; cases hun
      refine ⟨hinv, (put_size _ _ _).trans hJ.asize, (put_defers _ _ _).trans hJ.defers, fun i t hi hin hdi hl => ?_, fun t h => ?_, j :: N, fun i => if i = j then w.heap.size else γ i, List.nodup_cons.2 ⟨hjN, hNd⟩, fun i => ?_, fun i hi t hdi hts => ?_, ?_⟩
      · have hij : j ≠ i := fun e => by subst e; rw [hnn] at hin; cases hin
        rw [getD_set_ne' hij] at hl
        rw [put_ne _ (fun hd => huniq i j t hi hjk (Ne.symm hij) hdi (hdo.trans hd))]
        exact hJ.done i t hi hin hdi hl
      · rw [put_ne _ (fun hd => by
          have := h j hjk (hdo.trans hd)
          rw [getD_set_self hjl] at this
          cases this)]
        refine hJ.todo t fun i hi hdi => ?_
        have := h i hi hdi
        by_cases hij : j = i
        · subst hij; exact hun
        · rwa [getD_set_ne' hij] at this
      · rw [List.mem_cons, hNm i]
        by_cases hij : i = j
        · subst hij; rw [getD_set_self hjl]; simp [hnn, hjk]
        · rw [getD_set_ne' (Ne.symm hij)]; simp [hij]
      · rcases List.mem_cons.1 hi with rfl | hi'
        · have : o.dst = some t := hdo.symm.trans hdi
          rw [this]
          show _ = some (newPtr (if i = i then w.heap.size else γ i))
          rw [if_pos rfl]
          simp [Act.put, hJ.asize, hts]
        · have hij : i ≠ j := fun e => hjN (e ▸ hi')
          rw [put_ne _ (fun hd => huniq i j t ((hNm i).1 hi').1 hjk hij hdi (hdo.trans hd))]
          show _ = some (newPtr (if i = j then w.heap.size else γ i))
          rw [if_neg hij]
          exact hNs i hi' t hdi hts
      · refine ⟨m0, fun i hi hie => ?_, hm0k, ?_⟩
        · have hij : j ≠ i := fun e => by
            subst e
            simp [isElAt, ho, hc] at hie
          rw [getD_set_ne' hij]
          exact hm0 i hi hie
        have ej : CH el ops k K (fun s => (listed.setIfInBounds j true).getD s false) j = K j := by
          cases e : iniIx el ops k j with
          | none => simp [CH, e]
          | some s =>
            obtain ⟨h1, d', h2, h3⟩ := iniIx_some e
            have hso : ops[s]? = some ops[s] := Array.getElem?_eq_getElem (by omega)
            obtain ⟨_, _, _, ⟨i', h4, h5, h6, h7⟩, _⟩ := hini s _ d' h1 hso (by simpa [iniAt, hso] using h3)
            have hij : i' = j := Classical.byContradiction fun hne => huniq i' j d' (by omega) hjk hne h6 h2
            subst hij
            have hns : listed.getD s false = false := by
              cases hl : listed.getD s false with
              | false => rfl
              | true =>
                have := bef_listed hclosed (s + 1) s (by omega) (hclosed s hl) h7
                rw [hun] at this
                cases this
            have h8 : (listed.setIfInBounds i' true).getD s false = false := by
              rw [getD_set_ne' (by omega)]
              exact hns
            have h9 : (listed.setIfInBounds i' true)[s]?.getD false = false := by simpa using h8
            simp [CH, e, h9]
        show St B w' (CH el ops k K (fun s => (listed.setIfInBounds j true).getD s false) j (if j = j then w.heap.size else γ j) :: (N.map (fun i => CH el ops k K (fun s => (listed.setIfInBounds j true).getD s false) i (if i = j then w.heap.size else γ i)) ++ (R m0 ++ hp)))
        rw [if_pos rfl, ej]
        have : N.map (fun i => CH el ops k K (fun s => (listed.setIfInBounds j true).getD s false) i (if i = j then w.heap.size else γ i)) = N.map (fun i => CH el ops k K (fun s => listed.getD s false) i (γ i)) := by
          rw [← chk]
          exact List.map_congr_left fun i hi => by
            have hij : i ≠ j := fun e => hjN (e ▸ hi)
            rw [if_neg hij]
        rw [this]
        exact hS'
    · have keepSt : isEl el o = false → ∀ w', St B w' (N.map (fun i => CH el ops k K (fun s => listed.getD s false) i (γ i)) ++ (R m0 ++ hp)) → ∃ m, (∀ i, i < k → isElAt el ops i = true → ((listed.setIfInBounds j true).getD i false = true ↔ i < m)) ∧ m ≤ k ∧ St B w' (N.map (fun i => CH el ops k K (fun s => (listed.setIfInBounds j true).getD s false) i (γ i)) ++ (R m ++ hp)) := fun he w' hS => ⟨m0, fun i hi hie => by
          have hij : j ≠ i := fun e => by
            subst e
            simp [isElAt, ho, he] at hie
          rw [getD_set_ne' hij]
          exact hm0 i hi hie, hm0k, by rw [chk]; exact hS⟩
      cases he : isEl el o with
      | false =>
        rcases (hs.old hc hin he).2.2.2 with ⟨hw, hv⟩ | ⟨hw, hq⟩
        · rw [if_neg (by rw [hw]; simp)]
          exact cont _ _ (stay _ _ hv.symm hc (keepSt he _ hNS))
        · rw [if_pos hw]
          refine .inl ?_
          unfold Oper.wp
          rw [hexe]
          have hq := hq (N.map (fun i => CH el ops k K (fun s => listed.getD s false) i (γ i)) ++ R m0) w (by rw [List.append_assoc]; exact hNS)
          unfold Oper.quietAt at hq
          generalize (execOp (A j).eval o).run P w = r at hq
          cases r with
          | ok n w' =>
            cases n <;> simp only [Oper.quietUpon] at hq <;> simp only [Oper.upon]
            case value u => obtain ⟨rfl, hv⟩ := hq; exact cont _ _ (stay _ _ hv hc (keepSt he _ hNS))
            case skip => obtain ⟨rfl, hv⟩ := hq; exact cont _ _ (stay _ _ hv.symm hc (keepSt he _ hNS))
            case enter f args =>
              obtain ⟨rfl, hcall⟩ := hq
              refine hcall.mono fun e w'' ⟨he', hC⟩ => ?_
              subst he'
              rw [List.append_assoc] at hC
              exact cont _ _ (stay _ _ rfl hc (keepSt he _ hC))
          | halt h w' => simp only [Oper.quietUpon] at hq
      | true =>
        have hpj : isElAt el ops j = true := by simp [isElAt, ho, he, hc, hin]
        obtain ⟨hph1, hph2⟩ := hph hpj
        have hRj := hph2 m0 hm0 hm0k
        rw [hRj] at hNS
        have onSt : ∀ w', St B w' (N.map (fun i => CH el ops k K (fun s => listed.getD s false) i (γ i)) ++ (R (j + 1) ++ hp)) → ∃ m, (∀ i, i < k → isElAt el ops i = true → ((listed.setIfInBounds j true).getD i false = true ↔ i < m)) ∧ m ≤ k ∧ St B w' (N.map (fun i => CH el ops k K (fun s => (listed.setIfInBounds j true).getD s false) i (γ i)) ++ (R m ++ hp)) := fun w' hS => ⟨j + 1, fun i hi hie => by
          by_cases e : j = i
          · subst e; rw [getD_set_self hjl]; simp
          · rw [getD_set_ne' e, hph1 i hi hie]; omega, by omega, by rw [chk]; exact hS⟩
        rcases (hs.eff hc hin he).2.2 with ⟨hw, hv, hRR⟩ | ⟨hw, hq⟩
        · rw [if_neg (by rw [hw]; simp)]
          exact cont _ _ (stay _ _ hv.symm hc (onSt _ (by rw [hRR]; exact hNS)))
        · rw [if_pos hw]
          refine .inl ?_
          unfold Oper.wp
          rw [hexe]
          have hq := hq _ w hNS
          unfold effAt at hq
          generalize (execOp (A j).eval o).run P w = r at hq
          cases r with
          | ok n w' =>
            cases n <;> simp only at hq <;> simp only [Oper.upon]
            case value u => obtain ⟨hv, hC⟩ := hq; exact cont _ _ (stay _ _ hv hc (onSt _ hC))
            case skip => obtain ⟨hv, hC⟩ := hq; exact cont _ _ (stay _ _ hv.symm hc (onSt _ hC))
            case enter f args =>
              refine hq.mono fun e w'' ⟨he', hC⟩ => ?_
              subst he'
              exact cont _ _ (stay _ _ rfl hc (onSt _ hC))
          | halt h w' => simp only at hq
end

/-! ### The region -/
/-- Whatever the new blocks' places. -/
def FinG (n : Nat) (B : Base) (G : Act → World → Prop) : News → Fr → List Chunk → Prop
  | [], l, hp => S n l B hp G
  | (d, mk) :: r, l, hp => d < n ∧ ∀ g, FinG n B G r ((d, newPtr g) :: l) (mk g :: hp)
theorem FinG.use {n : Nat} {G : Act → World → Prop} : ∀ (news : News) (gs : List Nat) (l : Fr) (hp : List Chunk) (a : Act) (w : World), FinG n B G news l hp → gs.length = news.length → a.tmps.size = n → a.defers = [] →
    (∀ t v, look l t = some v → (∀ p ∈ news, p.1 ≠ t) → a.tmps[t]? = some v) → (∀ (i : Nat) p g, news[i]? = some p → gs[i]? = some g → p.1 < n → a.tmps[p.1]? = some (newPtr g)) → St B w ((news.zip gs).map (fun x => x.1.2 x.2) ++ hp) → G a w
  | [], gs, l, hp, a, w, h, _, hs, hd, hl, _, hS => h a w ⟨hs, hd, fun t v e => hl t v e (by simp)⟩ (by simpa using hS)
  | (d, mk) :: r, [], l, hp, a, w, h, hlen, hs, hd, hl, hn, hS => by simp at hlen
  | (d, mk) :: r, g :: gs, l, hp, a, w, h, hlen, hs, hd, hl, hn, hS => by
    refine FinG.use r gs ((d, newPtr g) :: l) (mk g :: hp) a w (h.2 g) (by simpa using hlen) hs hd (fun t v e hne => ?_) (fun i p g' h1 h2 => hn (i + 1) p g' (by simpa using h1) (by simpa using h2)) ?_
    · simp only [look] at e
      cases hb : Nat.beq d t with
      | true =>
        have := Nat.eq_of_beq_eq_true hb
        subst this
        simp at e
        subst e
        exact hn 0 (d, mk) g rfl rfl h.1
      | false =>
        simp [hb] at e
        refine hl t v e fun p hp => ?_
        rcases List.mem_cons.1 hp with rfl | hp
        · intro e'
          simp only at e'
          rw [e'] at hb
          simp at hb
        · exact hne p hp
    · refine hS.perm ?_
      simp only [List.zip_cons_cons, List.map_cons, List.cons_append]
      exact List.perm_middle.symm
theorem perm_of_nodup {α : Type} [DecidableEq α] : ∀ {l m : List α}, l.Nodup → m.Nodup → (∀ a, a ∈ l ↔ a ∈ m) → l.Perm m
  | [], m, _, _, h => by
    cases m with
    | nil => exact .nil
    | cons a r => exact absurd ((h a).2 (by simp)) (by simp)
  | a :: l, m, hl, hm, h => by
    have ha : a ∈ m := (h a).1 (by simp)
    have h1 := List.perm_cons_erase ha
    refine (List.Perm.cons a (perm_of_nodup (List.nodup_cons.1 hl).2 (hm.erase a) fun b => ?_)).trans h1.symm
    rw [hm.mem_erase_iff, ← h b, List.mem_cons]
    constructor
    · exact fun hb => ⟨fun e => (List.nodup_cons.1 hl).1 (e ▸ hb), .inr hb⟩
    · rintro ⟨hne, rfl | hb⟩
      · exact absurd rfl hne
      · exact hb
/-- What is to be shown behind the walk. -/
def MEnd (B : Base) (hp : List Chunk) (R : Act → World → Prop) (news : News) (a' : Act) : Prop :=
  ∀ (gs : List Nat) (a'' : Act) (w : World), gs.length = news.length → a''.tmps.size = a'.tmps.size → a''.defers = a'.defers → (∀ t, (∀ p ∈ news, p.1 ≠ t) → a''.tmps[t]? = a'.tmps[t]?) →
    (∀ (i : Nat) p g, news[i]? = some p → gs[i]? = some g → p.1 < a'.tmps.size → a''.tmps[p.1]? = some (newPtr g)) → St B w ((news.zip gs).map (fun x => x.1.2 x.2) ++ hp) → R a'' w
theorem MEnd.of {n : Nat} {l : Fr} {R : Act → World → Prop} {news : News} {a : Act} (hA : Has a n l) (h : FinG n B R news l hp) : MEnd B hp R news a := fun gs a'' w h1 h2 h3 h4 h5 h6 =>
  FinG.use news gs l hp a'' w h h1 (h2.trans hA.size) (h3.trans hA.defers) (fun t v e hne => (h4 t hne).trans (hA.slot t v e)) (fun i p g e1 e2 hlt => h5 i p g e1 e2 (by rw [hA.size]; exact hlt)) h6
def MEndW (B : Base) (hp : List Chunk) (R : Act → World → Prop) (news : News) (wr : List Chunk) (a : Act) : Prop := MEnd B (wr ++ hp) R news a
theorem c_monoT {el : Ord} {id n : Nat} {l : Fr} {os : List Oper} {Q : Exit → Act → World → Prop} {wr : List Chunk} (k : Nat) (hm : P.follows .mixedOrders = true) (hB : monoB el os.toArray k = true)
    (h : ∀ a, Has a n l → MP P os.toArray el B hp (MEndW B hp fun a'' w => if k = os.length then Q .normal a'' w else wpList P os.toArray Q (os.drop k) a'' w) (os.take k) [] wr a) :
    S n l B (wr ++ hp) (Code.wp P (.region id os.toArray true) Q) := fun a w hA hS => by
  refine wp_region_any hm ?_
  obtain ⟨hini, heff, hsel, hk, hnames, huniq, hnew, hlow, htail⟩ := monoB_spec hB
  have hk' : k ≤ os.length := by simpa using hk
  have hgo : ∀ o ∈ os.take k, cls o.op = .new → o.guard = none := fun o ho hc => by
    obtain ⟨j, hj⟩ := List.getElem?_of_mem ho
    have hjk : j < k := by have := (List.getElem?_eq_some_iff.1 hj).1; simp at this; omega
    rw [List.getElem?_take_of_lt hjk] at hj
    exact (hnew j o hjk (by simpa using hj) hc).1
  have hgi : ∀ o ∈ os.take k, ∀ d, iniOf el o = some d → o.guard = none := fun o ho d hd => by
    obtain ⟨j, hj⟩ := List.getElem?_of_mem ho
    have hjk : j < k := by have := (List.getElem?_eq_some_iff.1 hj).1; simp at this; omega
    rw [List.getElem?_take_of_lt hjk] at hj
    exact (hini j o d hjk (by simpa using hj) hd).1
  obtain ⟨A, V, K, R, NW, hA0, hR0, hN0, hst, hfin⟩ := MP.data (os.take k) 0 [] wr a hgo hgi (h a hA)
  simp only [Nat.zero_add, List.length_take, Nat.min_eq_left hk'] at hst hfin
  have hst' : ∀ j o, j < k → os.toArray[j]? = some o → MPStep P os.toArray el B hp o (A j) (A (j + 1)) (V j) (K j) (R j) (R (j + 1)) (NW j) (NW (j + 1)) := fun j o hj ho => hst j o (by rw [List.getElem?_take_of_lt hj]; simpa using ho)
  have key := UJ.sound (A := A) (V := V) (K := K) (R := R) (NW := NW) (Q := Q) hB hst' hN0 (fun listed a'' w' hJ hall => ?_) k (List.range k) (Array.replicate os.toArray.size false) a { w with drawn := w.drawn + 1 } (by simp) List.nodup_range ⟨⟨by simp, fun j oj hj hl => (by rw [getD_replicate_false] at hl; cases hl), fun t ht htl => (by simp at htl; simp [htl])⟩, by rw [hA0], by rw [hA0], fun i t hi _ hd hl => (by rw [getD_replicate_false] at hl; cases hl), fun t _ => by rw [hA0], [], fun _ => 0, by simp, fun i => by rw [getD_replicate_false]; simp, by simp, 0, fun i _ _ => by rw [getD_replicate_false]; simp, Nat.zero_le _, by rw [hR0]; simpa using hS.drew⟩ (fun i => by rw [getD_replicate_false]; simp)
  · rw [show k + (os.toArray.size - k) = os.toArray.size by omega] at key
    exact key
  · -- the end
    obtain ⟨N, γ, hNd, hNm, hNs, m0, hm0, hm0k, hNS⟩ := hJ.news
    have hRk : R k = R m0 := R_keep hB hst' hm0k (Nat.le_refl _) fun i h1 h2 => by
      cases he : isElAt el os.toArray i with
      | false => rfl
      | true => have := (hm0 i h2 he).1 (hall i h2); omega
    rw [← hRk] at hNS
    have hsz := UA_size hB hst' (Nat.le_refl k)
    have hNk := NW_eq hB hst' hN0 (Nat.le_refl k)
    have hCk : ∀ i, CH el os.toArray k K (fun s => listed.getD s false) i = CH el os.toArray k K (fun s => decide (s < k)) i := fun i => CH_congr fun s hs' => by
      have h1 := (iniIx_some hs').1
      rw [hall s h1]
      simp [h1]
    have hperm : N.Perm ((List.range k).filter (isNewAt os.toArray)) := perm_of_nodup hNd (List.nodup_range.filter _) fun i => by
      rw [hNm i, List.mem_filter, List.mem_range]
      constructor
      · exact fun h => ⟨h.1, h.2.1⟩
      · exact fun h => ⟨h.1, h.2, hall i h.1⟩
    rw [hNk] at hfin
    have hdst : ∀ i, i < k → isNewAt os.toArray i = true → ∃ d, dstOf os.toArray i = some d := fun i hi hn => by
      have ho : os.toArray[i]? = some os[i] := by simp [List.getElem?_eq_getElem (show i < os.length by omega)]
      have hc : cls os[i].op = .new := by simpa [isNewAt, ho] using hn
      obtain ⟨_, _, _, d, hd, _⟩ := (hst' i _ hi ho).new hc (hnew i _ hi ho hc).1
      exact ⟨d, by simp [dstOf, ho, hd]⟩
    have := hfin (((List.range k).filter (isNewAt os.toArray)).map γ) a'' w' (by simp) (hJ.asize.trans hsz.1.symm) (hJ.defers.trans hsz.2.symm) (fun t ht => ?_) (fun i p g h1 h2 hlt => ?_) ?_
    · rw [show os.toArray.size = os.length by simp, List.toList_toArray]
      exact this
    · by_cases hw : ∃ i, i < k ∧ dstOf os.toArray i = some t
      · obtain ⟨i, hi, hdi⟩ := hw
        have hnn : isNewAt os.toArray i = false := by
          cases h : isNewAt os.toArray i with
          | false => rfl
          | true => exact absurd (by simp [hdi]) (ht ((dstOf os.toArray i).getD 0, CH el os.toArray k K (fun s => decide (s < k)) i) (List.mem_map.2 ⟨i, List.mem_filter.2 ⟨List.mem_range.2 hi, h⟩, rfl⟩))
        rw [hJ.done i t hi hnn hdi (hall i hi)]
        exact (UA_keep hB hst' (by omega) (Nat.le_refl _) fun m h3 h4 => .inr (huniq i m t hi h4 (by omega) hdi)).symm
      · have hw' : ∀ i, i < k → dstOf os.toArray i ≠ some t := fun i hi hd => hw ⟨i, hi, hd⟩
        rw [hJ.todo t fun i hi hd => absurd hd (hw' i hi)]
        exact (UA_keep hB hst' (Nat.zero_le _) (Nat.le_refl _) fun m _ h4 => .inr (hw' m h4)).symm
    · rw [List.getElem?_map, Option.map_eq_some_iff] at h1 h2
      obtain ⟨j, hj, rfl⟩ := h1
      obtain ⟨j', hj', rfl⟩ := h2
      rw [hj] at hj'
      injection hj' with hj'
      subst hj'
      have hjm := List.mem_filter.1 (List.mem_of_getElem? hj)
      have hjk := List.mem_range.1 hjm.1
      obtain ⟨d, hd⟩ := hdst j hjk hjm.2
      simp only [hd, Option.getD_some] at hlt ⊢
      exact hNs j ((hNm j).2 ⟨hjk, hjm.2, hall j hjk⟩) d hd (by rw [← hsz.1]; exact hlt)
    · refine hNS.perm (List.Perm.append_right _ ?_)
      have e : ((((List.range k).filter (isNewAt os.toArray)).map fun j => ((dstOf os.toArray j).getD 0, CH el os.toArray k K (fun s => decide (s < k)) j)).zip (((List.range k).filter (isNewAt os.toArray)).map γ)).map (fun x => x.1.2 x.2) = ((List.range k).filter (isNewAt os.toArray)).map fun i => CH el os.toArray k K (fun s => listed.getD s false) i (γ i) := by
        generalize (List.range k).filter (isNewAt os.toArray) = L
        induction L with
        | nil => rfl
        | cons i r ih =>
          simp only [List.map_cons, List.zip_cons_cons, ih]
          rw [hCk]
      rw [e]
      exact hperm.map _
end
end Go.Proofs.Ytmfnjmmdchlkiaa.Eng
