/-
A region that draws its order, with new blocks beside calls: all but the last operations only read and make new blocks, whose places no other of them looks at; the last ones stand in order behind.
-/
import Derived.Test.YtjejnlfbonpfaaaDoorEng1
namespace Go.Proofs.YtjejnlfbonpfaaaDoor.Eng
set_option linter.unusedVariables false
set_option linter.unusedSimpArgs false
open Go

section
variable {P : Program} {ops : Array Oper} {B : Base} {hp : List Chunk}
abbrev News := List (Nat × (Nat → Chunk))
def newPtr (g : Nat) : Value := .pointer (some ⟨g, 0, none⟩)
/-- An operation that makes a new block, whatever else there is. -/
def MakesNew (P : Program) (B : Base) (hp : List Chunk) (o : Oper) (a : Act) (mk : Nat → Chunk) : Prop :=
  ∀ X w, St B w (X ++ hp) → ∃ w', (execOp a.eval o).run P w = .ok (.value (newPtr w.heap.size)) w' ∧ St B w' (mk w.heap.size :: (X ++ hp))
def MP (P : Program) (ops : Array Oper) (B : Base) (hp : List Chunk) (Fn : News → Act → Prop) : List Oper → News → Act → Prop
  | [], news, a => Fn news a
  | o :: rest, news, a =>
    if Region.wanted o (yielded ops a.tmps) then
      (if cls o.op = .new then ∃ d mk, o.dst = some d ∧ MakesNew P B hp o a mk ∧ MP P ops B hp Fn rest (news ++ [(d, mk)]) a
      else ∃ v, (∀ X w, St B w (X ++ hp) → o.quietAt P a (fun w => St B w (X ++ hp)) w v) ∧ MP P ops B hp Fn rest news (a.put o.dst v))
    else MP P ops B hp Fn rest news (a.put o.dst undef)
def isNewAt (ops : Array Oper) (i : Nat) : Bool := match ops[i]? with
  | some o => decide (cls o.op = .new)
  | none => false
def monoB (ops : Array Oper) (k : Nat) : Bool :=
  Region.noSelect ops && decide (k ≤ ops.size) &&
  ((List.range k).all fun j => (List.range k).all fun i => i == j || (
    match dstOf ops i with
      | some t => (!((match ops[j]? with | some o => (namesOf ops o).contains t | none => false)) || (!(isNewAt ops i) && ordB ops i j)) && (dstOf ops j != some t)
      | none => true)) &&
  ((List.range k).all fun j => match ops[j]? with
    | some o => (!(decide (cls o.op = .new)) || (o.guard.isNone && !((match o.dst with | some t => (namesOf ops o).contains t | none => false)))) && o.after.all fun e => !(Region.binds .any e) || decide (e.on < j)
    | none => true) &&
  (k == ops.size || (Region.sinkB .any ops k && Region.chainB .any ops k && Region.seqB .any ops (ops.size - k) k (Array.replicate k true ++ Array.replicate (ops.size - k) false)))
theorem monoB_spec {k : Nat} (h : monoB ops k = true) : Region.noSelect ops = true ∧ k ≤ ops.size ∧
    (∀ i j o t, i < k → j < k → ops[j]? = some o → i ≠ j → dstOf ops i = some t → t ∈ namesOf ops o → isNewAt ops i = false ∧ ordB ops i j = true) ∧
    (∀ i j t, i < k → j < k → i ≠ j → dstOf ops i = some t → dstOf ops j ≠ some t) ∧
    (∀ j o, j < k → ops[j]? = some o → cls o.op = .new → o.guard = none ∧ ∀ t, o.dst = some t → t ∉ namesOf ops o) ∧
    (∀ j o, j < k → ops[j]? = some o → ∀ e ∈ o.after, Region.binds .any e = true → e.on < j) ∧
    (k = ops.size ∨ (Region.sinkB .any ops k = true ∧ Region.chainB .any ops k = true ∧ Region.seqB .any ops (ops.size - k) k (Array.replicate k true ++ Array.replicate (ops.size - k) false) = true)) := by
  simp only [monoB, Bool.and_eq_true, List.all_eq_true, List.mem_range, Bool.or_eq_true, beq_iff_eq, decide_eq_true_eq] at h
  obtain ⟨⟨⟨⟨h1, hk⟩, h2⟩, h3⟩, h4⟩ := h
  have hat : ∀ j o, j < k → ops[j]? = some o → ops[j]? = some o := fun _ _ _ h => h
  refine ⟨h1, hk, fun i j o t hi hj ho hne hd ht => ?_, fun i j t hi hj hne hd => ?_, fun j o hj ho hc => ?_, fun j o hj ho e he hb => ?_, ?_⟩
  · rcases h2 j hj i hi with h | h
    · exact absurd h hne
    · simp only [hd, ho, Bool.and_eq_true, Bool.or_eq_true, Bool.not_eq_true'] at h
      rcases h.1 with h | h
      · have : (namesOf ops o).contains t = true := by simpa using ht
        rw [this] at h; cases h
      · exact ⟨by simpa using h.1, h.2⟩
  · rcases h2 j hj i hi with h | h
    · exact absurd h hne
    · simp only [hd, Bool.and_eq_true] at h
      simpa using h.2
  · have := h3 j hj
    simp only [ho, Bool.and_eq_true, Bool.or_eq_true] at this
    rcases this.1 with h | h
    · simp [hc] at h
    · refine ⟨by simpa using h.1, fun t ht hm => ?_⟩
      have h2 := h.2
      simp only [ht, Bool.not_eq_true'] at h2
      have : (namesOf ops o).contains t = true := by simpa using hm
      rw [this] at h2; cases h2
  · have := h3 j hj
    simp only [ho, Bool.and_eq_true, Array.all_eq_true_iff_forall_mem] at this
    have := this.2 e he
    simpa [hb] using this
  · rcases h4 with h | ⟨⟨h, h'⟩, h''⟩
    · exact .inl h
    · exact .inr ⟨h, h', h''⟩

/-- What the walk in the text's order found. -/
structure MPStep (P : Program) (ops : Array Oper) (B : Base) (hp : List Chunk) (o : Oper) (a a' : Act) (v : Value) (mk : Nat → Chunk) : Prop where
  old : cls o.op ≠ .new → a' = a.put o.dst v ∧ ((Region.wanted o (yielded ops a.tmps) = false ∧ v = undef) ∨ (Region.wanted o (yielded ops a.tmps) = true ∧ ∀ X w, St B w (X ++ hp) → o.quietAt P a (fun w => St B w (X ++ hp)) w v))
  new : cls o.op = .new → o.guard = none → a' = a ∧ MakesNew P B hp o a mk ∧ ∃ d, o.dst = some d
def newsOf (l : List Oper) (i : Nat) (K : Nat → Nat → Chunk) : News := match l with
  | [] => []
  | o :: r => if cls o.op = .new then (o.dst.getD 0, K i) :: newsOf r (i + 1) K else newsOf r (i + 1) K
theorem newsOf_congr {K K' : Nat → Nat → Chunk} : ∀ (l : List Oper) (i : Nat), (∀ j, i ≤ j → K j = K' j) → newsOf l i K = newsOf l i K'
  | [], _, _ => rfl
  | o :: r, i, h => by
    unfold newsOf
    rw [h i (Nat.le_refl _), newsOf_congr r (i + 1) fun j hj => h j (by omega)]
theorem MP.data {Fn : News → Act → Prop} : ∀ (l : List Oper) (i : Nat) (news : News) (a : Act), (∀ o ∈ l, cls o.op = .new → o.guard = none) → MP P ops B hp Fn l news a → ∃ (A : Nat → Act) (V : Nat → Value) (K : Nat → Nat → Chunk), A i = a ∧
    (∀ j o, l[j]? = some o → MPStep P ops B hp o (A (i + j)) (A (i + j + 1)) (V (i + j)) (K (i + j))) ∧ Fn (news ++ newsOf l i K) (A (i + l.length)) := by
  intro l
  induction l with
  | nil => intro i news a _ h; exact ⟨fun _ => a, fun _ => undef, fun _ _ => cells 0 0 [], rfl, fun j o ho => by simp at ho, by simpa [newsOf, MP] using h⟩
  | cons o rest ih =>
    intro i news a hg h
    have key : ∃ v mk a' news', MP P ops B hp Fn rest news' a' ∧ MPStep P ops B hp o a a' v mk ∧ news' = news ++ (if cls o.op = .new then [(o.dst.getD 0, mk)] else []) := by
      unfold MP at h
      by_cases hc : cls o.op = .new
      · have hgo := hg o (by simp) hc
        rw [if_pos (by simp [Region.wanted, hgo]), if_pos hc] at h
        obtain ⟨d, mk, hd, hmk, h⟩ := h
        exact ⟨undef, mk, a, _, h, ⟨fun h => absurd hc h, fun _ _ => ⟨rfl, hmk, d, hd⟩⟩, by simp [hc, hd]⟩
      · by_cases hw : Region.wanted o (yielded ops a.tmps) = true
        · rw [if_pos hw, if_neg hc] at h
          obtain ⟨v, hv, h⟩ := h
          exact ⟨v, fun _ => cells 0 0 [], _, _, h, ⟨fun _ => ⟨rfl, .inr ⟨hw, hv⟩⟩, fun h => absurd h hc⟩, by simp [hc]⟩
        · rw [if_neg hw] at h
          exact ⟨undef, fun _ => cells 0 0 [], _, _, h, ⟨fun _ => ⟨rfl, .inl ⟨by simpa using hw, rfl⟩⟩, fun h => absurd h hc⟩, by simp [hc]⟩
    obtain ⟨v, mk, a', news', h2, hs, hn⟩ := key
    obtain ⟨A, V, K, hA, hst, hfin⟩ := ih (i + 1) news' a' (fun o ho => hg o (List.mem_cons_of_mem _ ho)) h2
    have ne : ∀ j, i + 1 + j ≠ i := fun j => by omega
    refine ⟨fun k => if k = i then a else A k, fun k => if k = i then v else V k, fun k => if k = i then mk else K k, by simp, fun j o' ho => ?_, ?_⟩
    · cases j with
      | zero =>
        simp at ho
        subst ho
        simp only [Nat.add_zero, if_true, show i + 1 ≠ i by omega, if_false, hA]
        exact hs
      | succ j =>
        have := hst j o' (by simpa using ho)
        simp only [show i + (j + 1) = i + 1 + j by omega, show i + 1 + j + 1 ≠ i by omega, ne j, if_false]
        exact this
    · simp only [List.length_cons, show i + (rest.length + 1) = i + 1 + rest.length by omega, ne, if_false]
      have e : news ++ newsOf (o :: rest) i (fun k => if k = i then mk else K k) = news' ++ newsOf rest (i + 1) K := by
        rw [hn, List.append_assoc]
        congr 1
        have : newsOf rest (i + 1) (fun k => if k = i then mk else K k) = newsOf rest (i + 1) K := newsOf_congr rest (i + 1) fun j hj => by simp [show j ≠ i by omega]
        have e1 : newsOf (o :: rest) i (fun k => if k = i then mk else K k) = if cls o.op = .new then (o.dst.getD 0, mk) :: newsOf rest (i + 1) K else newsOf rest (i + 1) K := by
          rw [← this]
          show (if cls o.op = .new then (o.dst.getD 0, if i = i then mk else K i) :: newsOf rest (i + 1) _ else newsOf rest (i + 1) _) = _
          rw [if_pos rfl]
        rw [e1]
        by_cases hc : cls o.op = .new <;> simp [hc]
      rw [e]
      exact hfin

section
variable {k : Nat} {A : Nat → Act} {V : Nat → Value} {K : Nat → Nat → Chunk}
/-- What holds whatever has been carried out so far. -/
structure UJ (B : Base) (hp : List Chunk) (ops : Array Oper) (k : Nat) (A : Nat → Act) (K : Nat → Nat → Chunk) (listed : Array Bool) (a : Act) (w : World) : Prop where
  inv : HeadInv .any ops k listed
  asize : a.tmps.size = (A 0).tmps.size
  defers : a.defers = (A 0).defers
  done : ∀ i t, i < k → isNewAt ops i = false → dstOf ops i = some t → listed.getD i false = true → a.tmps[t]? = (A (i + 1)).tmps[t]?
  todo : ∀ t, (∀ i, i < k → dstOf ops i = some t → listed.getD i false = false) → a.tmps[t]? = (A 0).tmps[t]?
  news : ∃ (N : List Nat) (γ : Nat → Nat), N.Nodup ∧ (∀ i, i ∈ N ↔ i < k ∧ isNewAt ops i = true ∧ listed.getD i false = true) ∧ (∀ i ∈ N, ∀ t, dstOf ops i = some t → t < (A 0).tmps.size → a.tmps[t]? = some (newPtr (γ i))) ∧ St B w (N.map (fun i => K i (γ i)) ++ hp)
variable (hB : monoB ops k = true) (hst : ∀ j o, j < k → ops[j]? = some o → MPStep P ops B hp o (A j) (A (j + 1)) (V j) (K j))
include hB hst
theorem UA_step {j : Nat} {o : Oper} (hj : j < k) (ho : ops[j]? = some o) : (A (j + 1)).tmps.size = (A j).tmps.size ∧ (A (j + 1)).defers = (A j).defers ∧ ∀ t, (isNewAt ops j = true ∨ dstOf ops j ≠ some t) → (A (j + 1)).tmps[t]? = (A j).tmps[t]? := by
  have hs := hst j o hj ho
  by_cases hc : cls o.op = .new
  · have h1 := (monoB_spec hB).2.2.2.2.1 j o hj ho hc
    rw [(hs.new hc h1.1).1]
    exact ⟨rfl, rfl, fun _ _ => rfl⟩
  · rw [(hs.old hc).1]
    refine ⟨put_size _ _ _, put_defers _ _ _, fun t ht => put_ne _ (fun hd => ?_) _⟩
    rcases ht with h | h
    · simp [isNewAt, ho, hc] at h
    · exact h (by simp [dstOf, ho, hd])
theorem UA_size {m : Nat} (hm : m ≤ k) : (A m).tmps.size = (A 0).tmps.size ∧ (A m).defers = (A 0).defers := by
  have hk := (monoB_spec hB).2.1
  induction m with
  | zero => exact ⟨rfl, rfl⟩
  | succ m ih =>
    obtain ⟨h1, h2⟩ := ih (by omega)
    have hs := UA_step hB hst (j := m) (by omega) (Array.getElem?_eq_getElem (by omega))
    exact ⟨hs.1.trans h1, hs.2.1.trans h2⟩
theorem UA_keep {t : Tmp} {i m : Nat} (him : i ≤ m) (hm : m ≤ k) (h : ∀ j, i ≤ j → j < m → isNewAt ops j = true ∨ dstOf ops j ≠ some t) : (A m).tmps[t]? = (A i).tmps[t]? := by
  have hk := (monoB_spec hB).2.1
  induction m with
  | zero => have : i = 0 := by omega
            subst this; rfl
  | succ m ih =>
    by_cases e : i = m + 1
    · subst e; rfl
    · have hs := UA_step hB hst (j := m) (by omega) (Array.getElem?_eq_getElem (by omega))
      rw [hs.2.2 t (h m (by omega) (by omega))]
      exact ih (by omega) (by omega) fun j h1 h2 => h j h1 (by omega)
omit hB hst in
theorem dir_spec {j i : Nat} {o : Oper} (ho : ops[j]? = some o) (h : dir ops j i = true) : ∃ e ∈ o.after, Region.binds .any e = true ∧ e.on = i := by
  unfold dir at h
  simp only [ho] at h
  obtain ⟨e, he, hb⟩ := Array.any_eq_true'.1 h
  simp only [Bool.and_eq_true, beq_iff_eq] at hb
  exact ⟨e, he, hb.1, hb.2⟩
omit hB hst in
theorem UJ.closed {listed : Array Bool} {a : Act} {w : World} (hJ : UJ B hp ops k A K listed a w) : ∀ j, listed.getD j false = true → ∀ i, dir ops j i = true → listed.getD i false = true := fun j hj i hi => by
  cases ho : ops[j]? with
  | none => simp [dir, ho] at hi
  | some o =>
    obtain ⟨e, he, hb, hon⟩ := dir_spec ho hi
    rw [← hon]
    exact hJ.inv.closed j o ho hj e he hb
theorem UJ.sees {listed : Array Bool} {a : Act} {w : World} (hJ : UJ B hp ops k A K listed a w) {j : Nat} {o : Oper} (hj : j < k) (ho : ops[j]? = some o) (hun : listed.getD j false = false) (hdeps : ∀ i, dir ops j i = true → listed.getD i false = true) :
    ∀ t ∈ o.looksAt ops, a.tmps[t]? = (A j).tmps[t]? := by
  obtain ⟨_, hk, hnames, huniq, hnew, _, _⟩ := monoB_spec hB
  have hcl := UJ.closed hJ
  have hord : ∀ i, i < k → i ≠ j → ordB ops i j = true → (listed.getD i false = true ↔ i < j) := fun i hi hne h => by
    unfold ordB at h
    by_cases hij : i < j
    · rw [if_pos hij] at h
      exact ⟨fun _ => hij, fun _ => bef_listed hcl (j + 1) j (by omega) hdeps h⟩
    · rw [if_neg hij] at h
      refine ⟨fun hl => ?_, fun h => absurd h hij⟩
      rw [bef_listed hcl (i + 1) i (by omega) (hcl i hl) h] at hun
      cases hun
  intro t ht
  by_cases hw : ∃ i, i < k ∧ dstOf ops i = some t
  · obtain ⟨i, hi, hdi⟩ := hw
    have others : ∀ m, m < k → m ≠ i → dstOf ops m ≠ some t := fun m hm hne => huniq i m t hi hm (Ne.symm hne) hdi
    by_cases hij : i = j
    · subst hij
      rw [hJ.todo t fun m hm hd => by
        by_cases e : m = i
        · rw [e]; exact hun
        · exact absurd hd (others m hm e)]
      exact (UA_keep hB hst (Nat.zero_le _) (by omega) fun m _ h2 => .inr (others m (by omega) (by omega))).symm
    · obtain ⟨hnn, hoo⟩ := hnames i j o t hi hj ho hij hdi ht
      have h1 := hord i hi hij hoo
      by_cases hl : listed.getD i false = true
      · have hlt := h1.1 hl
        rw [hJ.done i t hi hnn hdi hl]
        exact (UA_keep hB hst (by omega) (by omega) fun m h3 h4 => .inr (others m (by omega) (by omega))).symm
      · have hge : ¬ i < j := fun h => hl (h1.2 h)
        rw [hJ.todo t fun m hm hd => by
          by_cases e : m = i
          · rw [e]; simpa using hl
          · exact absurd hd (others m hm e)]
        exact (UA_keep hB hst (Nat.zero_le _) (by omega) fun m _ h2 => .inr (others m (by omega) (by omega))).symm
  · have hw' : ∀ i, i < k → dstOf ops i ≠ some t := fun i hi hd => hw ⟨i, hi, hd⟩
    rw [hJ.todo t fun i hi hd => absurd hd (hw' i hi)]
    exact (UA_keep hB hst (Nat.zero_le _) (by omega) fun m _ h2 => .inr (hw' m (by omega))).symm

theorem UJ.sound {Q : Exit → Act → World → Prop}
    (hfin : ∀ (listed : Array Bool) (a : Act) (w : World), UJ B hp ops k A K listed a w → (∀ i, i < k → listed.getD i false = true) → if k = ops.size then Q .normal a w else wpList P ops Q (ops.toList.drop k) a w) :
    ∀ (m : Nat) (H : List Nat) (listed : Array Bool) (a : Act) (w : World), H.length = m → H.Nodup → UJ B hp ops k A K listed a w → (∀ i, i ∈ H ↔ i < k ∧ listed.getD i false = false) → wpAny P .any ops Q (m + (ops.size - k)) listed a w := by
  obtain ⟨hsel, hk, hnames, huniq, hnew, hlow, htail⟩ := monoB_spec hB
  have ready_mem : ∀ (listed : Array Bool) (a : Act) (w : World), UJ B hp ops k A K listed a w → ∀ n i, i < n → i < k → listed.getD i false = false → ∃ j, j < k ∧ j ∈ Region.ready .any ops listed := by
    intro listed a w hJ n
    induction n with
    | zero => intro i h; omega
    | succ n ih =>
      intro i hin hi hl
      by_cases hall : ∀ m, m < i → listed.getD m false = true
      · refine ⟨i, hi, ?_⟩
        rw [mem_ready]
        exact ⟨getD_in (by rw [hJ.inv.size]; omega) hl, ops[i], Array.getElem?_eq_getElem (by omega), fun e he hb => hall _ (hlow i _ hi (Array.getElem?_eq_getElem (by omega)) e he hb)⟩
      · have : ∃ m, m < i ∧ listed.getD m false = false := Classical.byContradiction fun hc => hall fun m hm => by
          cases h : listed.getD m false with
          | true => rfl
          | false => exact absurd ⟨m, hm, h⟩ hc
        obtain ⟨m, hm, hl'⟩ := this
        exact ih m (by omega) (by omega) hl'
  intro m
  induction m with
  | zero =>
    intro H listed a w hn _ hJ hH
    have hnil : H = [] := List.eq_nil_of_length_eq_zero hn
    subst hnil
    have hall : ∀ i, i < k → listed.getD i false = true := fun i hi => by
      cases h : listed.getD i false with
      | true => rfl
      | false => exact absurd ((hH i).2 ⟨hi, h⟩) (by simp)
    have hf := hfin listed a w hJ hall
    rw [Nat.zero_add]
    by_cases he : k = ops.size
    · rw [if_pos he] at hf
      rw [← he, Nat.sub_self]
      have hr : Region.ready .any ops listed = [] := by
        cases hr : Region.ready .any ops listed with
        | nil => rfl
        | cons j r =>
          have hm : j ∈ Region.ready .any ops listed := by rw [hr]; simp
          obtain ⟨h0, o, ho, _⟩ := mem_ready.1 hm
          have hlt := (Array.getElem?_eq_some_iff.1 ho).1
          have := hall j (by omega)
          rw [getD_tf h0] at this
          cases this
      exact ⟨hr, hf⟩
    · rw [if_neg he] at hf
      rcases htail with h | ⟨_, _, hseq⟩
      · exact absurd h he
      have hl : listed = Array.replicate k true ++ Array.replicate (ops.size - k) false := by
        apply Array.ext
        · simp [hJ.inv.size]; omega
        · intro i h1 h2
          rcases Nat.lt_or_ge i k with h | h
          · have := hall i h
            simp only [Array.getD_eq_getD_getElem?, Array.getElem?_eq_getElem h1, Option.getD_some] at this
            rw [this, Array.getElem_append_left (by simpa using h)]
            simp
          · have := hJ.inv.tail i h (by rw [← hJ.inv.size]; exact h1)
            simp only [Array.getD_eq_getD_getElem?, Array.getElem?_eq_getElem h1, Option.getD_some] at this
            rw [this, Array.getElem_append_right (by simpa using h)]
            simp
      have hlen : (ops.toList.drop k).length = ops.size - k := by simp
      rw [← hlen]
      refine wpAny_of_seq (ops.toList.drop k) k listed a w (fun j => by simp) ?_ hf
      rw [hlen, hl]
      exact hseq
  | succ m ih =>
    intro H listed a w hn hnd hJ hH
    have hex : ∃ i, i ∈ H := by
      cases H with
      | nil => simp at hn
      | cons i r => exact ⟨i, by simp⟩
    obtain ⟨i0, hi0⟩ := hex
    obtain ⟨hi0k, hi0l⟩ := (hH i0).1 hi0
    obtain ⟨j0, hj0k, hj0⟩ := ready_mem listed a w hJ (i0 + 1) i0 (by omega) hi0k hi0l
    rw [show m + 1 + (ops.size - k) = (m + (ops.size - k)) + 1 by omega]
    refine ⟨fun hr => (by rw [hr] at hj0; cases hj0), fun j hj => ?_⟩
    have hjk : j < k := by
      rcases Nat.lt_or_ge j k with h | h
      · exact h
      · obtain ⟨_, o, ho, _⟩ := mem_ready.1 hj
        have hlt := (Array.getElem?_eq_some_iff.1 ho).1
        rcases htail with he | ⟨hs, hc, _⟩
        · omega
        · exact absurd hj (tail_waits hs hc (by omega) hJ.inv _ i0 rfl hi0k (getD_in (by rw [hJ.inv.size]; omega) hi0l) j h)
    obtain ⟨h0, o, ho, hafter⟩ := mem_ready.1 hj
    have hun := getD_tf h0
    have hdeps : ∀ i, dir ops j i = true → listed.getD i false = true := fun i hi => by
      obtain ⟨e, he, hb, hon⟩ := dir_spec ho hi
      rw [← hon]
      exact hafter e he hb
    have hslots := UJ.sees hB hst hJ hjk ho hun hdeps
    obtain ⟨hops, hwant⟩ := eval_of_slots o hslots
    have hexe : execOp a.eval o = execOp (A j).eval o := execOp_congr o (fun cs b => Region.noSelect_spec hsel j o cs b ho) hops
    have hs := hst j o hjk ho
    have hjH : j ∈ H := (hH j).2 ⟨hjk, hun⟩
    have hjl : j < listed.size := by rw [hJ.inv.size]; omega
    have hdo : dstOf ops j = o.dst := by simp [dstOf, ho]
    have cont : ∀ (v : Value) (w' : World), UJ B hp ops k A K (listed.setIfInBounds j true) (a.put o.dst v) w' → wpAny P .any ops Q (m + (ops.size - k)) (listed.setIfInBounds j true) (a.put o.dst v) w' := fun v w' hJ' => by
      refine ih (H.erase j) _ _ _ (by rw [List.length_erase_of_mem hjH]; omega) (hnd.erase j) hJ' fun i => ?_
      rw [hnd.mem_erase_iff, hH i]
      by_cases e : i = j
      · subst e; rw [getD_set_self hjl]; simp
      · rw [getD_set_ne' (Ne.symm e)]; simp [e]
    have hinv : HeadInv .any ops k (listed.setIfInBounds j true) := hJ.inv.set hj hjk
    obtain ⟨N, γ, hNd, hNm, hNs, hNS⟩ := hJ.news
    -- an operation that makes nothing new
    have stay : ∀ (v : Value) (w' : World), v = V j → cls o.op ≠ .new → St B w' (N.map (fun i => K i (γ i)) ++ hp) → UJ B hp ops k A K (listed.setIfInBounds j true) (a.put o.dst v) w' := fun v w' hv hc hS => by
      subst hv
      have hnn : isNewAt ops j = false := by simp [isNewAt, ho, hc]
      refine ⟨hinv, (put_size _ _ _).trans hJ.asize, (put_defers _ _ _).trans hJ.defers, fun i t hi hin hdi hl => ?_, fun t h => ?_, N, γ, hNd, fun i => ?_, fun i hi t hdi hts => ?_, hS⟩
      · by_cases hij : j = i
        · subst hij
          rw [(hs.old hc).1]
          have : o.dst = some t := hdo.symm.trans hdi
          rw [this]
          exact put_self (hJ.asize.trans (UA_size hB hst (by omega)).1.symm) _
        · rw [getD_set_ne' hij] at hl
          rw [put_ne _ (fun hd => huniq i j t hi hjk (Ne.symm hij) hdi (hdo.trans hd))]
          exact hJ.done i t hi hin hdi hl
      · rw [put_ne _ (fun hd => by
          have := h j hjk (hdo.trans hd)
          rw [getD_set_self hjl] at this
          cases this)]
        refine hJ.todo t fun i hi hdi => ?_
        have := h i hi hdi
        by_cases hij : j = i
        · subst hij; exact hun
        · rwa [getD_set_ne' hij] at this
      · rw [hNm i]
        by_cases hij : j = i
        · subst hij; simp [hnn]
        · rw [getD_set_ne' hij]
      · have hi' := (hNm i).1 hi
        have hij : j ≠ i := fun e => by subst e; rw [hnn] at hi'; cases hi'.2.1
        rw [put_ne _ (fun hd => huniq i j t hi'.1 hjk (Ne.symm hij) hdi (hdo.trans hd))]
        exact hNs i hi t hdi hts
    unfold wpOp
    simp only [ho]
    rw [hwant]
    by_cases hc : cls o.op = .new
    · obtain ⟨hg, hgd⟩ := hnew j o hjk ho hc
      obtain ⟨hAA, hmk, d, hd⟩ := hs.new hc hg
      rw [if_pos (by simp [Region.wanted, hg])]
      refine .inl ?_
      unfold Oper.wp
      rw [hexe]
      obtain ⟨w', he, hS'⟩ := hmk _ w hNS
      rw [he]
      refine cont _ _ ?_
      have hnn : isNewAt ops j = true := by simp [isNewAt, ho, hc]
      have hjN : j ∉ N := fun h => by rw [((hNm j).1 h).2.2] at hun; cases hun
      refine ⟨hinv, (put_size _ _ _).trans hJ.asize, (put_defers _ _ _).trans hJ.defers, fun i t hi hin hdi hl => ?_, fun t h => ?_, j :: N, fun i => if i = j then w.heap.size else γ i, List.nodup_cons.2 ⟨hjN, hNd⟩, fun i => ?_, fun i hi t hdi hts => ?_, ?_⟩
      · have hij : j ≠ i := fun e => by subst e; rw [hnn] at hin; cases hin
        rw [getD_set_ne' hij] at hl
        rw [put_ne _ (fun hd => huniq i j t hi hjk (Ne.symm hij) hdi (hdo.trans hd))]
        exact hJ.done i t hi hin hdi hl
      · rw [put_ne _ (fun hd => by
          have := h j hjk (hdo.trans hd)
          rw [getD_set_self hjl] at this
          cases this)]
        refine hJ.todo t fun i hi hdi => ?_
        have := h i hi hdi
        by_cases hij : j = i
        · subst hij; exact hun
        · rwa [getD_set_ne' hij] at this
      · rw [List.mem_cons, hNm i]
        by_cases hij : i = j
        · subst hij; rw [getD_set_self hjl]; simp [hnn, hjk]
        · rw [getD_set_ne' (Ne.symm hij)]; simp [hij]
      · rcases List.mem_cons.1 hi with rfl | hi'
        · have : o.dst = some t := hdo.symm.trans hdi
          rw [this]
          show _ = some (newPtr (if i = i then w.heap.size else γ i))
          rw [if_pos rfl]
          simp [Act.put, hJ.asize, hts]
        · have hij : i ≠ j := fun e => hjN (e ▸ hi')
          rw [put_ne _ (fun hd => huniq i j t ((hNm i).1 hi').1 hjk hij hdi (hdo.trans hd))]
          show _ = some (newPtr (if i = j then w.heap.size else γ i))
          rw [if_neg hij]
          exact hNs i hi' t hdi hts
      · show St B w' (K j (if j = j then w.heap.size else γ j) :: (N.map (fun i => K i (if i = j then w.heap.size else γ i)) ++ hp))
        rw [if_pos rfl]
        have : N.map (fun i => K i (if i = j then w.heap.size else γ i)) = N.map (fun i => K i (γ i)) := List.map_congr_left fun i hi => by
          have hij : i ≠ j := fun e => hjN (e ▸ hi)
          rw [if_neg hij]
        rw [this]
        exact hS'
    · rcases (hs.old hc).2 with ⟨hw, hv⟩ | ⟨hw, hq⟩
      · rw [if_neg (by rw [hw]; simp)]
        exact cont _ _ (stay _ _ hv.symm hc hNS)
      · rw [if_pos hw]
        refine .inl ?_
        unfold Oper.wp
        rw [hexe]
        have hq := hq _ w hNS
        unfold Oper.quietAt at hq
        generalize (execOp (A j).eval o).run P w = r at hq
        cases r with
        | ok n w' =>
          cases n <;> simp only [Oper.quietUpon] at hq <;> simp only [Oper.upon]
          case value u => obtain ⟨rfl, hv⟩ := hq; exact cont _ _ (stay _ _ hv hc hNS)
          case skip => obtain ⟨rfl, hv⟩ := hq; exact cont _ _ (stay _ _ hv.symm hc hNS)
          case enter f args =>
            obtain ⟨rfl, hcall⟩ := hq
            refine hcall.mono fun e w'' ⟨he, hC⟩ => ?_
            subst he
            exact cont _ _ (stay _ _ rfl hc hC)
        | halt h w' => simp only [Oper.quietUpon] at hq
end

/-! ### The region -/
/-- Whatever the new blocks' places. -/
def FinG (n : Nat) (B : Base) (G : Act → World → Prop) : News → Fr → List Chunk → Prop
  | [], l, hp => S n l B hp G
  | (d, mk) :: r, l, hp => d < n ∧ ∀ g, FinG n B G r ((d, newPtr g) :: l) (mk g :: hp)
theorem FinG.use {n : Nat} {G : Act → World → Prop} : ∀ (news : News) (gs : List Nat) (l : Fr) (hp : List Chunk) (a : Act) (w : World), FinG n B G news l hp → gs.length = news.length → a.tmps.size = n → a.defers = [] →
    (∀ t v, look l t = some v → (∀ p ∈ news, p.1 ≠ t) → a.tmps[t]? = some v) → (∀ (i : Nat) p g, news[i]? = some p → gs[i]? = some g → p.1 < n → a.tmps[p.1]? = some (newPtr g)) → St B w ((news.zip gs).map (fun x => x.1.2 x.2) ++ hp) → G a w
  | [], gs, l, hp, a, w, h, _, hs, hd, hl, _, hS => h a w ⟨hs, hd, fun t v e => hl t v e (by simp)⟩ (by simpa using hS)
  | (d, mk) :: r, [], l, hp, a, w, h, hlen, hs, hd, hl, hn, hS => by simp at hlen
  | (d, mk) :: r, g :: gs, l, hp, a, w, h, hlen, hs, hd, hl, hn, hS => by
    refine FinG.use r gs ((d, newPtr g) :: l) (mk g :: hp) a w (h.2 g) (by simpa using hlen) hs hd (fun t v e hne => ?_) (fun i p g' h1 h2 => hn (i + 1) p g' (by simpa using h1) (by simpa using h2)) ?_
    · simp only [look] at e
      cases hb : Nat.beq d t with
      | true =>
        have := Nat.eq_of_beq_eq_true hb
        subst this
        simp at e
        subst e
        exact hn 0 (d, mk) g rfl rfl h.1
      | false =>
        simp [hb] at e
        refine hl t v e fun p hp => ?_
        rcases List.mem_cons.1 hp with rfl | hp
        · intro e'
          simp only at e'
          rw [e'] at hb
          simp at hb
        · exact hne p hp
    · refine hS.perm ?_
      simp only [List.zip_cons_cons, List.map_cons, List.cons_append]
      exact List.perm_middle.symm
theorem newsOf_get {K : Nat → Nat → Chunk} : ∀ (l : List Oper) (i : Nat), newsOf l i K = ((List.range' i l.length).filter fun j => match l[j - i]? with | some o => decide (cls o.op = .new) | none => false).map fun j => ((match l[j - i]? with | some o => o.dst.getD 0 | none => 0), K j)
  | [], i => by simp [newsOf]
  | o :: r, i => by
    rw [List.length_cons, List.range'_succ]
    have ih := newsOf_get (K := K) r (i + 1)
    have e1 : (List.range' (i + 1) r.length).filter (fun j => match (o :: r)[j - i]? with | some o => decide (cls o.op = .new) | none => false) = (List.range' (i + 1) r.length).filter fun j => match r[j - (i + 1)]? with | some o => decide (cls o.op = .new) | none => false := by
      refine List.filter_congr fun j hj => ?_
      have := List.mem_range'_1.1 hj
      rw [show j - i = (j - (i + 1)) + 1 by omega, List.getElem?_cons_succ]
    have e2 : ∀ j ∈ (List.range' (i + 1) r.length).filter (fun j => match r[j - (i + 1)]? with | some o => decide (cls o.op = .new) | none => false), ((match (o :: r)[j - i]? with | some o => o.dst.getD 0 | none => 0), K j) = ((match r[j - (i + 1)]? with | some o => o.dst.getD 0 | none => 0), K j) := fun j hj => by
      have := List.mem_range'_1.1 (List.mem_filter.1 hj).1
      rw [show j - i = (j - (i + 1)) + 1 by omega, List.getElem?_cons_succ]
    rw [List.filter_cons, e1]
    show (if cls o.op = .new then (o.dst.getD 0, K i) :: newsOf r (i + 1) K else newsOf r (i + 1) K) = _
    rw [ih]
    by_cases hc : cls o.op = .new
    · simp only [Nat.sub_self, List.getElem?_cons_zero, hc, decide_true, if_true, List.map_cons]
      rw [List.map_congr_left e2]
    · simp only [Nat.sub_self, List.getElem?_cons_zero, hc, decide_false, if_false, Bool.false_eq_true]
      rw [List.map_congr_left e2]
theorem perm_of_nodup {α : Type} [DecidableEq α] : ∀ {l m : List α}, l.Nodup → m.Nodup → (∀ a, a ∈ l ↔ a ∈ m) → l.Perm m
  | [], m, _, _, h => by
    cases m with
    | nil => exact .nil
    | cons a r => exact absurd ((h a).2 (by simp)) (by simp)
  | a :: l, m, hl, hm, h => by
    have ha : a ∈ m := (h a).1 (by simp)
    have h1 := List.perm_cons_erase ha
    refine (List.Perm.cons a (perm_of_nodup (List.nodup_cons.1 hl).2 (hm.erase a) fun b => ?_)).trans h1.symm
    rw [hm.mem_erase_iff, ← h b, List.mem_cons]
    constructor
    · exact fun hb => ⟨fun e => (List.nodup_cons.1 hl).1 (e ▸ hb), .inr hb⟩
    · rintro ⟨hne, rfl | hb⟩
      · exact absurd rfl hne
      · exact hb
/-- What is to be shown behind the walk. -/
def MEnd (B : Base) (hp : List Chunk) (R : Act → World → Prop) (news : News) (a' : Act) : Prop :=
  ∀ (gs : List Nat) (a'' : Act) (w : World), gs.length = news.length → a''.tmps.size = a'.tmps.size → a''.defers = a'.defers → (∀ t, (∀ p ∈ news, p.1 ≠ t) → a''.tmps[t]? = a'.tmps[t]?) →
    (∀ (i : Nat) p g, news[i]? = some p → gs[i]? = some g → p.1 < a'.tmps.size → a''.tmps[p.1]? = some (newPtr g)) → St B w ((news.zip gs).map (fun x => x.1.2 x.2) ++ hp) → R a'' w
theorem MEnd.of {n : Nat} {l : Fr} {R : Act → World → Prop} {news : News} {a : Act} (hA : Has a n l) (h : FinG n B R news l hp) : MEnd B hp R news a := fun gs a'' w h1 h2 h3 h4 h5 h6 =>
  FinG.use news gs l hp a'' w h h1 (h2.trans hA.size) (h3.trans hA.defers) (fun t v e hne => (h4 t hne).trans (hA.slot t v e)) (fun i p g e1 e2 hlt => h5 i p g e1 e2 (by rw [hA.size]; exact hlt)) h6
theorem c_monoT {id n : Nat} {l : Fr} {os : List Oper} {Q : Exit → Act → World → Prop} (k : Nat) (hm : P.follows .mixedOrders = true) (hB : monoB os.toArray k = true)
    (h : ∀ a, Has a n l → MP P os.toArray B hp (MEnd B hp fun a'' w => if k = os.length then Q .normal a'' w else wpList P os.toArray Q (os.drop k) a'' w) (os.take k) [] a) :
    S n l B hp (Code.wp P (.region id os.toArray true) Q) := fun a w hA hS => by
  refine wp_region_any hm ?_
  obtain ⟨hsel, hk, hnames, huniq, hnew, hlow, htail⟩ := monoB_spec hB
  have hk' : k ≤ os.length := by simpa using hk
  have hgo : ∀ o ∈ os.take k, cls o.op = .new → o.guard = none := fun o ho hc => by
    obtain ⟨j, hj⟩ := List.getElem?_of_mem ho
    have hjk : j < k := by have := (List.getElem?_eq_some_iff.1 hj).1; simp at this; omega
    rw [List.getElem?_take_of_lt hjk] at hj
    exact (hnew j o hjk (by simpa using hj) hc).1
  obtain ⟨A, V, K, hA0, hst, hfin⟩ := MP.data (os.take k) 0 [] a hgo (h a hA)
  simp only [Nat.zero_add, List.nil_append, List.length_take, Nat.min_eq_left hk'] at hst hfin
  have hst' : ∀ j o, j < k → os.toArray[j]? = some o → MPStep P os.toArray B hp o (A j) (A (j + 1)) (V j) (K j) := fun j o hj ho => hst j o (by rw [List.getElem?_take_of_lt hj]; simpa using ho)
  have key := UJ.sound (A := A) (V := V) (K := K) (Q := Q) hB hst' (fun listed a'' w' hJ hall => ?_) k (List.range k) (Array.replicate os.toArray.size false) a { w with drawn := w.drawn + 1 } (by simp) List.nodup_range ⟨⟨by simp, fun j oj hj hl => (by rw [getD_replicate_false] at hl; cases hl), fun t ht htl => (by simp at htl; simp [htl])⟩, by rw [hA0], by rw [hA0], fun i t hi _ hd hl => (by rw [getD_replicate_false] at hl; cases hl), fun t _ => by rw [hA0], [], fun _ => 0, by simp, fun i => by rw [getD_replicate_false]; simp, by simp, by simpa using hS.drew⟩ (fun i => by rw [getD_replicate_false]; simp)
  · rw [show k + (os.toArray.size - k) = os.toArray.size by omega] at key
    exact key
  · -- the end
    obtain ⟨N, γ, hNd, hNm, hNs, hNS⟩ := hJ.news
    have hsz := UA_size hB hst' (Nat.le_refl k)
    have hN0 : newsOf (os.take k) 0 K = ((List.range k).filter (isNewAt os.toArray)).map fun j => ((dstOf os.toArray j).getD 0, K j) := by
      rw [newsOf_get, List.length_take, Nat.min_eq_left hk', ← List.range_eq_range']
      have e1 : (List.range k).filter (fun j => match (os.take k)[j - 0]? with | some o => decide (cls o.op = .new) | none => false) = (List.range k).filter (isNewAt os.toArray) := List.filter_congr fun j hj => by
        rw [Nat.sub_zero, List.getElem?_take_of_lt (List.mem_range.1 hj)]
        simp [isNewAt]
      rw [e1]
      refine List.map_congr_left fun j hj => ?_
      have hjk := List.mem_range.1 (List.mem_filter.1 hj).1
      rw [Nat.sub_zero, List.getElem?_take_of_lt hjk]
      have : os[j]? = some os[j] := List.getElem?_eq_getElem (by omega)
      simp [dstOf, this]
    have hperm : N.Perm ((List.range k).filter (isNewAt os.toArray)) := perm_of_nodup hNd (List.nodup_range.filter _) fun i => by
      rw [hNm i, List.mem_filter, List.mem_range]
      constructor
      · exact fun h => ⟨h.1, h.2.1⟩
      · exact fun h => ⟨h.1, h.2, hall i h.1⟩
    rw [hN0] at hfin
    have hdst : ∀ i, i < k → isNewAt os.toArray i = true → ∃ d, dstOf os.toArray i = some d := fun i hi hn => by
      have ho : os.toArray[i]? = some os[i] := by simp [List.getElem?_eq_getElem (show i < os.length by omega)]
      have hc : cls os[i].op = .new := by simpa [isNewAt, ho] using hn
      obtain ⟨_, _, d, hd⟩ := (hst' i _ hi ho).new hc (hnew i _ hi ho hc).1
      exact ⟨d, by simp [dstOf, ho, hd]⟩
    have := hfin (((List.range k).filter (isNewAt os.toArray)).map γ) a'' w' (by simp) (hJ.asize.trans hsz.1.symm) (hJ.defers.trans hsz.2.symm) (fun t ht => ?_) (fun i p g h1 h2 hlt => ?_) ?_
    · rw [show os.toArray.size = os.length by simp, List.toList_toArray]
      exact this
    · by_cases hw : ∃ i, i < k ∧ dstOf os.toArray i = some t
      · obtain ⟨i, hi, hdi⟩ := hw
        have hnn : isNewAt os.toArray i = false := by
          cases h : isNewAt os.toArray i with
          | false => rfl
          | true => exact absurd (by simp [hdi]) (ht ((dstOf os.toArray i).getD 0, K i) (List.mem_map.2 ⟨i, List.mem_filter.2 ⟨List.mem_range.2 hi, h⟩, rfl⟩))
        rw [hJ.done i t hi hnn hdi (hall i hi)]
        exact (UA_keep hB hst' (by omega) (Nat.le_refl _) fun m h3 h4 => .inr (huniq i m t hi h4 (by omega) hdi)).symm
      · have hw' : ∀ i, i < k → dstOf os.toArray i ≠ some t := fun i hi hd => hw ⟨i, hi, hd⟩
        rw [hJ.todo t fun i hi hd => absurd hd (hw' i hi)]
        exact (UA_keep hB hst' (Nat.zero_le _) (Nat.le_refl _) fun m _ h4 => .inr (hw' m h4)).symm
    · rw [List.getElem?_map, Option.map_eq_some_iff] at h1 h2
      obtain ⟨j, hj, rfl⟩ := h1
      obtain ⟨j', hj', rfl⟩ := h2
      rw [hj] at hj'
      injection hj' with hj'
      subst hj'
      have hjm := List.mem_filter.1 (List.mem_of_getElem? hj)
      have hjk := List.mem_range.1 hjm.1
      obtain ⟨d, hd⟩ := hdst j hjk hjm.2
      simp only [hd, Option.getD_some] at hlt ⊢
      exact hNs j ((hNm j).2 ⟨hjk, hjm.2, hall j hjk⟩) d hd (by rw [← hsz.1]; exact hlt)
    · refine hNS.perm (List.Perm.append_right hp ?_)
      have e : ((((List.range k).filter (isNewAt os.toArray)).map fun j => ((dstOf os.toArray j).getD 0, K j)).zip (((List.range k).filter (isNewAt os.toArray)).map γ)).map (fun x => x.1.2 x.2) = ((List.range k).filter (isNewAt os.toArray)).map fun i => K i (γ i) := by
        generalize (List.range k).filter (isNewAt os.toArray) = L
        induction L with
        | nil => rfl
        | cons i r ih => simp [ih]
      rw [e]
      exact hperm.map _
end
end Go.Proofs.YtjejnlfbonpfaaaDoor.Eng
