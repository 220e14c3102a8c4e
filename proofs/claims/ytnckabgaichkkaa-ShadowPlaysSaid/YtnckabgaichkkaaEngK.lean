/-
A region that draws its order, in which loads stand unordered with writes: the loads look only at memory that the region leaves as it is.
-/
import Derived.Test.YtnckabgaichkkaaEngM
namespace Go.Proofs.Ytnckabgaichkkaa.Eng
set_option linter.unusedVariables false
set_option linter.unusedSimpArgs false
open Go

def clsE (o : Op) : Bool := match cls o with
  | .pure => false
  | .load => false
  | _ => true
/-- What is no mere load, and the loads (told by their slots) that are ordered as well. -/
def clsEo (ol : List Nat) (o : Oper) : Bool := clsE o.op || (match o.dst with
  | some d => ol.contains d
  | none => false)
def isE (ol : List Nat) (ops : Array Oper) (i : Nat) : Bool := match ops[i]? with
  | some o => clsEo ol o
  | none => false
/-- Each writer of what op j looks at stands before it or behind it by an edge; no slot has two writers; all that is no mere load is ordered. -/
def keepB (ol : List Nat) (ops : Array Oper) : Bool :=
  Region.noSelect ops &&
  ((List.range ops.size).all fun j => (List.range ops.size).all fun i => i == j || (
    (match dstOf ops i with
      | some t => !((match ops[j]? with | some o => (namesOf ops o).contains t | none => false)) || ordB ops i j
      | none => true) &&
    (match dstOf ops i with
      | some t => dstOf ops j != some t
      | none => true) &&
    (!(isE ol ops i) || !(isE ol ops j) || ordB ops i j))) &&
  (List.range ops.size).all fun j => match ops[j]? with
    | some o => o.after.all fun e => !(Region.binds .any e) || decide (e.on < j)
    | none => true
theorem keepB_spec {ol : List Nat} {ops : Array Oper} (h : keepB ol ops = true) : Region.noSelect ops = true ∧
    (∀ i j o t, i < ops.size → ops[j]? = some o → i ≠ j → dstOf ops i = some t → t ∈ namesOf ops o → ordB ops i j = true) ∧
    (∀ i j t, i < ops.size → j < ops.size → i ≠ j → dstOf ops i = some t → dstOf ops j ≠ some t) ∧
    (∀ i j, i < ops.size → j < ops.size → i ≠ j → isE ol ops i = true → isE ol ops j = true → ordB ops i j = true) := by
  simp only [keepB, Bool.and_eq_true, List.all_eq_true, List.mem_range, Bool.or_eq_true, beq_iff_eq] at h
  obtain ⟨⟨h1, h2⟩, _⟩ := h
  refine ⟨h1, fun i j o t hi ho hne hd ht => ?_, fun i j t hi hj hne hd => ?_, fun i j hi hj hne he hp => ?_⟩
  · have hj : j < ops.size := (Array.getElem?_eq_some_iff.1 ho).1
    rcases h2 j hj i hi with h | ⟨⟨h, _⟩, _⟩
    · exact absurd h hne
    · simp only [hd, ho, Bool.or_eq_true, Bool.not_eq_true'] at h
      rcases h with h | h
      · have : (namesOf ops o).contains t = true := by simpa using ht
        rw [this] at h; cases h
      · exact h
  · rcases h2 j hj i hi with h | ⟨⟨_, h⟩, _⟩
    · exact absurd h hne
    · simpa [hd] using h
  · rcases h2 j hj i hi with h | ⟨_, h⟩
    · exact absurd h hne
    · simpa [he, hp] using h

section
variable {P : Program} {ops : Array Oper} {ol : List Nat} {I : World → Prop} {F : Act → World → Prop}
/-- The walk in the order of the text: what loads is said of every world that keeps I. -/
def KW (P : Program) (ops : Array Oper) (ol : List Nat) (I : World → Prop) (F : Act → World → Prop) : List Oper → (World → Prop) → Act → Prop
  | [], C, a => ∀ w, C w → F a w
  | o :: rest, C, a =>
    if Region.wanted o (yielded ops a.tmps) then
      if clsEo ol o = true then ∃ v C', (∀ w, C w → effAt P o a C' w v) ∧ (∀ w, C' w → I w) ∧ KW P ops ol I F rest C' (a.put o.dst v)
      else ∃ v, (∀ w, I w → (execOp a.eval o).run P w = .ok (.value v) w) ∧ KW P ops ol I F rest C (a.put o.dst v)
    else KW P ops ol I F rest C (a.put o.dst undef)
structure KStep (P : Program) (ops : Array Oper) (ol : List Nat) (I : World → Prop) (o : Oper) (a a' : Act) (C C' : World → Prop) (v : Value) : Prop where
  put : a' = a.put o.dst v
  keep : clsEo ol o = false → C' = C
  inv : (∀ w, C w → I w) → ∀ w, C' w → I w
  how : (Region.wanted o (yielded ops a.tmps) = false ∧ v = undef ∧ C' = C) ∨
    (Region.wanted o (yielded ops a.tmps) = true ∧ (clsEo ol o = false → ∀ w, I w → (execOp a.eval o).run P w = .ok (.value v) w) ∧ (clsEo ol o = true → ∀ w, C w → effAt P o a C' w v))
theorem KW.data : ∀ (l : List Oper) (i : Nat) (C : World → Prop) (a : Act), KW P ops ol I F l C a → ∃ (A : Nat → Act) (D : Nat → World → Prop) (V : Nat → Value), A i = a ∧ D i = C ∧
    (∀ j o, l[j]? = some o → KStep P ops ol I o (A (i + j)) (A (i + j + 1)) (D (i + j)) (D (i + j + 1)) (V (i + j))) ∧ ∀ w, D (i + l.length) w → F (A (i + l.length)) w := by
  intro l
  induction l with
  | nil => intro i C a h; exact ⟨fun _ => a, fun _ => C, fun _ => undef, rfl, rfl, fun j o ho => by simp at ho, h⟩
  | cons o rest ih =>
    intro i C a h
    have key : ∃ v C', KW P ops ol I F rest C' (a.put o.dst v) ∧ KStep P ops ol I o a (a.put o.dst v) C C' v := by
      unfold KW at h
      by_cases hw : Region.wanted o (yielded ops a.tmps) = true
      · rw [if_pos hw] at h
        by_cases hc : clsEo ol o = true
        · rw [if_pos hc] at h
          obtain ⟨v, C', h1, h2, h3⟩ := h
          exact ⟨v, C', h3, rfl, fun h => (by rw [hc] at h; cases h), fun _ => h2, .inr ⟨hw, fun h => (by rw [hc] at h; cases h), fun _ => h1⟩⟩
        · rw [if_neg hc] at h
          obtain ⟨v, h1, h2⟩ := h
          exact ⟨v, C, h2, rfl, fun _ => rfl, fun h => h, .inr ⟨hw, fun _ => h1, fun h => absurd h hc⟩⟩
      · rw [if_neg hw] at h
        exact ⟨undef, C, h, rfl, fun _ => rfl, fun h => h, .inl ⟨by simpa using hw, rfl, rfl⟩⟩
    obtain ⟨v, C', h2, hs⟩ := key
    obtain ⟨A, D, V, hA, hD, hst, hfin⟩ := ih (i + 1) C' _ h2
    have ne : ∀ j, i + 1 + j ≠ i := fun j => by omega
    refine ⟨fun k => if k = i then a else A k, fun k => if k = i then C else D k, fun k => if k = i then v else V k, by simp, by simp, fun j o' ho => ?_, fun w hw => ?_⟩
    · cases j with
      | zero =>
        simp at ho
        subst ho
        simp only [Nat.add_zero, if_true, show i + 1 ≠ i by omega, if_false, hA, hD]
        exact hs
      | succ j =>
        have := hst j o' (by simpa using ho)
        simp only [show i + (j + 1) = i + 1 + j by omega, show i + 1 + j + 1 ≠ i by omega, ne j, if_false]
        exact this
    · simp only [List.length_cons, show i + (rest.length + 1) = i + 1 + rest.length by omega, ne, if_false] at hw ⊢
      exact hfin w hw

/-- What holds whatever has been carried out so far. -/
structure KJ (ol : List Nat) (ops : Array Oper) (A : Nat → Act) (D : Nat → World → Prop) (listed : Array Bool) (a : Act) (w : World) : Prop where
  size : listed.size = ops.size
  asize : a.tmps.size = (A 0).tmps.size
  defers : a.defers = (A 0).defers
  closed : ∀ j, listed.getD j false = true → ∀ i, dir ops j i = true → listed.getD i false = true
  done : ∀ i t, i < ops.size → dstOf ops i = some t → listed.getD i false = true → a.tmps[t]? = (A (i + 1)).tmps[t]?
  todo : ∀ t, (∀ i, i < ops.size → dstOf ops i = some t → listed.getD i false = false) → a.tmps[t]? = (A 0).tmps[t]?
  phase : ∃ k, (∀ i, i < ops.size → isE ol ops i = true → (listed.getD i false = true ↔ i < k)) ∧ k ≤ ops.size ∧ D k w

section
variable {A : Nat → Act} {D : Nat → World → Prop} {V : Nat → Value}
variable (hB : keepB ol ops = true) (hst : ∀ j o, ops[j]? = some o → KStep P ops ol I o (A j) (A (j + 1)) (D j) (D (j + 1)) (V j))
include hst
theorem KA_size {k : Nat} (hk : k ≤ ops.size) : (A k).tmps.size = (A 0).tmps.size ∧ (A k).defers = (A 0).defers := by
  induction k with
  | zero => exact ⟨rfl, rfl⟩
  | succ k ih =>
    obtain ⟨h1, h2⟩ := ih (by omega)
    have hs := hst k _ (Array.getElem?_eq_getElem (by omega))
    rw [hs.put]
    exact ⟨(put_size _ _ _).trans h1, (put_defers _ _ _).trans h2⟩
theorem KA_keep {t : Tmp} {i k : Nat} (hik : i ≤ k) (hk : k ≤ ops.size) (h : ∀ j, i ≤ j → j < k → dstOf ops j ≠ some t) : (A k).tmps[t]? = (A i).tmps[t]? := by
  induction k with
  | zero => have : i = 0 := by omega
            subst this; rfl
  | succ k ih =>
    by_cases e : i = k + 1
    · subst e; rfl
    · have hkl : k < ops.size := by omega
      have hs := hst k _ (Array.getElem?_eq_getElem hkl)
      rw [hs.put, put_ne _ (fun hd => h k (by omega) (by omega) (by simp [dstOf, Array.getElem?_eq_getElem hkl, hd]))]
      exact ih (by omega) (by omega) fun j h1 h2 => h j h1 (by omega)
theorem KD_keep {i k : Nat} (hik : i ≤ k) (hk : k ≤ ops.size) (h : ∀ j, i ≤ j → j < k → isE ol ops j = false) : D k = D i := by
  induction k with
  | zero => have : i = 0 := by omega
            subst this; rfl
  | succ k ih =>
    by_cases e : i = k + 1
    · subst e; rfl
    · have hkl : k < ops.size := by omega
      have hs := hst k _ (Array.getElem?_eq_getElem hkl)
      have := h k (by omega) (by omega)
      rw [hs.keep (by simpa [isE, Array.getElem?_eq_getElem hkl] using this)]
      exact ih (by omega) (by omega) fun j h1 h2 => h j h1 (by omega)
theorem KD_inv (h0 : ∀ w, D 0 w → I w) {k : Nat} (hk : k ≤ ops.size) : ∀ w, D k w → I w := by
  induction k with
  | zero => exact h0
  | succ k ih => exact (hst k _ (Array.getElem?_eq_getElem (by omega))).inv (ih (by omega))
include hB
theorem KJ.full {listed : Array Bool} {a : Act} {w : World} (hJ : KJ ol ops A D listed a w) (hall : ∀ i, i < ops.size → listed.getD i false = true) : a = A ops.size ∧ D ops.size w := by
  obtain ⟨_, _, huniq, _⟩ := keepB_spec hB
  obtain ⟨hs, hd⟩ := KA_size hst (Nat.le_refl ops.size)
  have htm : a.tmps = (A ops.size).tmps := by
    apply Array.ext_getElem?
    intro t
    by_cases hw : ∃ i, i < ops.size ∧ dstOf ops i = some t
    · obtain ⟨i, hi, hdi⟩ := hw
      rw [hJ.done i t hi hdi (hall i hi)]
      exact (KA_keep hst (by omega) (Nat.le_refl _) fun j h1 h2 => huniq i j t hi h2 (by omega) hdi).symm
    · have hw' : ∀ i, i < ops.size → dstOf ops i ≠ some t := fun i hi hd => hw ⟨i, hi, hd⟩
      rw [hJ.todo t fun i hi hd => absurd hd (hw' i hi)]
      exact (KA_keep hst (Nat.zero_le _) (Nat.le_refl _) fun j _ h2 => hw' j h2).symm
  refine ⟨?_, ?_⟩
  · have h1 := hJ.defers
    cases a; cases hA : A ops.size
    rw [hA] at htm hd
    simp only at htm hd h1
    rw [htm, h1, hd]
  · obtain ⟨k, hk, hkn, hD⟩ := hJ.phase
    rw [KD_keep hst hkn (Nat.le_refl _) fun j h1 h2 => by
      cases he : isE ol ops j with
      | false => rfl
      | true => have := (hk j h2 he).1 (hall j h2); omega]
    exact hD
/-- What an operation that is ready sees. -/
theorem KJ.sees {listed : Array Bool} {a : Act} {w : World} (hJ : KJ ol ops A D listed a w) {j : Nat} {o : Oper} (ho : ops[j]? = some o) (hun : listed.getD j false = false) (hdeps : ∀ i, dir ops j i = true → listed.getD i false = true) :
    (∀ t ∈ o.looksAt ops, a.tmps[t]? = (A j).tmps[t]?) ∧ (isE ol ops j = true → (∀ i, i < ops.size → isE ol ops i = true → (listed.getD i false = true ↔ i < j)) ∧ D j w) := by
  obtain ⟨_, hnames, huniq, heff⟩ := keepB_spec hB
  have hj : j < ops.size := (Array.getElem?_eq_some_iff.1 ho).1
  have hord : ∀ i, i < ops.size → i ≠ j → ordB ops i j = true → (listed.getD i false = true ↔ i < j) := fun i hi hne h => by
    unfold ordB at h
    by_cases hij : i < j
    · rw [if_pos hij] at h
      exact ⟨fun _ => hij, fun _ => bef_listed hJ.closed (j + 1) j (by omega) hdeps h⟩
    · rw [if_neg hij] at h
      refine ⟨fun hl => ?_, fun h => absurd h hij⟩
      rw [bef_listed hJ.closed (i + 1) i (by omega) (hJ.closed i hl) h] at hun
      cases hun
  refine ⟨fun t ht => ?_, fun hp => ?_⟩
  · by_cases hw : ∃ i, i < ops.size ∧ dstOf ops i = some t
    · obtain ⟨i, hi, hdi⟩ := hw
      have others : ∀ k, k < ops.size → k ≠ i → dstOf ops k ≠ some t := fun k hk hne => huniq i k t hi hk (Ne.symm hne) hdi
      by_cases hij : i = j
      · subst hij
        rw [hJ.todo t fun k hk hd => by
          by_cases e : k = i
          · rw [e]; exact hun
          · exact absurd hd (others k hk e)]
        exact (KA_keep hst (Nat.zero_le _) (by omega) fun k _ h2 => others k (by omega) (by omega)).symm
      · have h1 := hord i hi hij (hnames i j o t hi ho hij hdi ht)
        by_cases hl : listed.getD i false = true
        · have hlt := h1.1 hl
          rw [hJ.done i t hi hdi hl]
          exact (KA_keep hst (by omega) (by omega) fun k h3 h4 => others k (by omega) (by omega)).symm
        · have hge : ¬ i < j := fun h => hl (h1.2 h)
          rw [hJ.todo t fun k hk hd => by
            by_cases e : k = i
            · rw [e]; simpa using hl
            · exact absurd hd (others k hk e)]
          exact (KA_keep hst (Nat.zero_le _) (by omega) fun k _ h2 => others k (by omega) (by omega)).symm
    · have hw' : ∀ i, i < ops.size → dstOf ops i ≠ some t := fun i hi hd => hw ⟨i, hi, hd⟩
      rw [hJ.todo t fun i hi hd => absurd hd (hw' i hi)]
      exact (KA_keep hst (Nat.zero_le _) (by omega) fun k _ h2 => hw' k (by omega)).symm
  · have h1 : ∀ i, i < ops.size → isE ol ops i = true → (listed.getD i false = true ↔ i < j) := fun i hi he => by
      by_cases hij : i = j
      · subst hij
        rw [hun]
        simp
      · exact hord i hi hij (heff i j hi hj hij he hp)
    refine ⟨h1, ?_⟩
    obtain ⟨k, hk, hkn, hD⟩ := hJ.phase
    have h2 : ∀ i, i < ops.size → isE ol ops i = true → (i < k ↔ i < j) := fun i hi he => (hk i hi he).symm.trans (h1 i hi he)
    rcases Nat.le_total k j with hle | hle
    · rw [KD_keep hst hle (by omega) fun i h3 h4 => by
        cases he : isE ol ops i with
        | false => rfl
        | true => have := (h2 i (by omega) he).2 h4; omega]
      exact hD
    · rw [KD_keep hst hle hkn fun i h3 h4 => by
        cases he : isE ol ops i with
        | false => rfl
        | true => have := (h2 i (by omega) he).1 h4; omega] at hD
      exact hD
theorem KJ.next {listed : Array Bool} {a : Act} {w w' : World} (hJ : KJ ol ops A D listed a w) {j : Nat} {o : Oper} (ho : ops[j]? = some o) (hun : listed.getD j false = false) (hdeps : ∀ i, dir ops j i = true → listed.getD i false = true)
    (hD : ∃ k, (∀ i, i < ops.size → isE ol ops i = true → ((listed.setIfInBounds j true).getD i false = true ↔ i < k)) ∧ k ≤ ops.size ∧ D k w') : KJ ol ops A D (listed.setIfInBounds j true) (a.put o.dst (V j)) w' := by
  obtain ⟨_, hnames, huniq, heff⟩ := keepB_spec hB
  have hj : j < ops.size := (Array.getElem?_eq_some_iff.1 ho).1
  have hjl : j < listed.size := by rw [hJ.size]; exact hj
  have hdo : dstOf ops j = o.dst := by simp [dstOf, ho]
  have hs := hst j o ho
  refine ⟨by simp [hJ.size], (put_size _ _ _).trans hJ.asize, (put_defers _ _ _).trans hJ.defers, fun i hi k hk => ?_, fun i t hi hdi hl => ?_, fun t h => ?_, hD⟩
  · by_cases hkj : j = k
    · subst hkj; exact getD_set_self hjl
    · rw [getD_set_ne' hkj]
      by_cases hij : j = i
      · subst hij; exact hdeps k hk
      · rw [getD_set_ne' hij] at hi
        exact hJ.closed i hi k hk
  · by_cases hij : j = i
    · subst hij
      rw [hs.put]
      have : o.dst = some t := hdo.symm.trans hdi
      rw [this]
      exact put_self (hJ.asize.trans (KA_size hst (by omega)).1.symm) _
    · rw [getD_set_ne' hij] at hl
      rw [put_ne _ (fun hd => huniq i j t hi hj (Ne.symm hij) hdi (hdo.trans hd))]
      exact hJ.done i t hi hdi hl
  · rw [put_ne _ (fun hd => by
      have := h j hj (hdo.trans hd)
      rw [getD_set_self hjl] at this
      cases this)]
    refine hJ.todo t fun i hi hdi => ?_
    have := h i hi hdi
    by_cases hij : j = i
    · subst hij; exact hun
    · rwa [getD_set_ne' hij] at this

theorem KJ.sound {Q : Exit → Act → World → Prop} (hI0 : ∀ w, D 0 w → I w) (hfin : ∀ w, D ops.size w → Q .normal (A ops.size) w) :
    ∀ (fuel : Nat) (U : List Nat) (listed : Array Bool) (a : Act) (w : World), KJ ol ops A D listed a w → (∀ i, i < ops.size → listed.getD i false = false → i ∈ U) → U.length ≤ fuel → wpAny P .any ops Q fuel listed a w := by
  have hsel := (keepB_spec hB).1
  have hend : ∀ (listed : Array Bool) (a : Act) (w : World), KJ ol ops A D listed a w → Region.ready .any ops listed = [] → Q .normal a w := by
    intro listed a w hJ hr
    have hall : ∀ n i, i < n → i < ops.size → listed.getD i false = true := by
      intro n
      induction n with
      | zero => intro i h; omega
      | succ n ih =>
        intro i hin hi
        by_cases e : i < n
        · exact ih i e hi
        · have hi' : i = n := by omega
          subst hi'
          cases hl : listed.getD i false with
          | true => rfl
          | false =>
            exfalso
            have hmem : i ∈ Region.ready .any ops listed := by
              rw [mem_ready]
              refine ⟨by
                have h1 : i < listed.size := by rw [hJ.size]; exact hi
                simpa [h1] using hl, ops[i], Array.getElem?_eq_getElem hi, fun e he hb => ?_⟩
              have htop := hB
              simp only [keepB, Bool.and_eq_true, List.all_eq_true, List.mem_range] at htop
              have := htop.2 i hi
              simp only [Array.getElem?_eq_getElem hi, Array.all_eq_true_iff_forall_mem] at this
              have h2 := this e he
              simp [hb] at h2
              exact ih e.on h2 (by omega)
            rw [hr] at hmem
            cases hmem
    obtain ⟨rfl, hD⟩ := hJ.full hB hst fun i hi => hall (i + 1) i (by omega) hi
    exact hfin w hD
  intro fuel
  induction fuel with
  | zero =>
    intro U listed a w hJ hU hlen
    have hr : Region.ready .any ops listed = [] := by
      cases hc : Region.ready .any ops listed with
      | nil => rfl
      | cons i r =>
        have hm : i ∈ Region.ready .any ops listed := by rw [hc]; simp
        obtain ⟨h0, o, ho, _⟩ := mem_ready.1 hm
        have := hU i (Array.getElem?_eq_some_iff.1 ho).1 (getD_tf h0)
        rw [List.eq_nil_of_length_eq_zero (by omega : U.length = 0)] at this
        cases this
    exact ⟨hr, hend _ _ _ hJ hr⟩
  | succ fuel ih =>
    intro U listed a w hJ hU hlen
    refine ⟨fun hr => hend _ _ _ hJ hr, fun j hj => ?_⟩
    obtain ⟨h0, o, ho, hafter⟩ := mem_ready.1 hj
    have hun := getD_tf h0
    have hjn : j < ops.size := (Array.getElem?_eq_some_iff.1 ho).1
    have hdeps : ∀ i, dir ops j i = true → listed.getD i false = true := fun i hi => by
      simp only [dir, ho] at hi
      obtain ⟨e, he, hb⟩ := Array.any_eq_true'.1 hi
      simp only [Bool.and_eq_true, beq_iff_eq] at hb
      rw [← hb.2]
      exact hafter e he hb.1
    obtain ⟨hslots, hph0⟩ := hJ.sees hB hst ho hun hdeps
    obtain ⟨hops, hwant⟩ := eval_of_slots o hslots
    have hex : execOp a.eval o = execOp (A j).eval o := execOp_congr o (fun cs b => Region.noSelect_spec hsel j o cs b ho) hops
    have hs := hst j o ho
    have hjU : j ∈ U := hU j hjn hun
    have cont : ∀ w', (∃ k, (∀ i, i < ops.size → isE ol ops i = true → ((listed.setIfInBounds j true).getD i false = true ↔ i < k)) ∧ k ≤ ops.size ∧ D k w') →
        wpAny P .any ops Q fuel (listed.setIfInBounds j true) (a.put o.dst (V j)) w' := fun w' hD =>
      ih (U.erase j) _ _ _ (hJ.next hB hst ho hun hdeps hD) (fun i hi hl => by
        by_cases e : j = i
        · subst e
          rw [getD_set_self (by rw [hJ.size]; exact hjn)] at hl
          cases hl
        · rw [getD_set_ne' e] at hl
          exact (List.mem_erase_of_ne (Ne.symm e)).2 (hU i hi hl)) (by rw [List.length_erase_of_mem hjU]; omega)
    -- what stays where it was
    have stay : isE ol ops j = false → ∃ k, (∀ i, i < ops.size → isE ol ops i = true → ((listed.setIfInBounds j true).getD i false = true ↔ i < k)) ∧ k ≤ ops.size ∧ D k w := fun he => by
      obtain ⟨k, hk, hkn, hD⟩ := hJ.phase
      refine ⟨k, fun i hi hie => ?_, hkn, hD⟩
      by_cases e : j = i
      · subst e; rw [he] at hie; cases hie
      · rw [getD_set_ne' e]; exact hk i hi hie
    have on : isE ol ops j = true → ∀ w', D (j + 1) w' → ∃ k, (∀ i, i < ops.size → isE ol ops i = true → ((listed.setIfInBounds j true).getD i false = true ↔ i < k)) ∧ k ≤ ops.size ∧ D k w' := fun hp w' hD => by
      obtain ⟨h1, _⟩ := hph0 hp
      refine ⟨j + 1, fun i hi hie => ?_, by omega, hD⟩
      by_cases e : j = i
      · subst e; rw [getD_set_self (by rw [hJ.size]; exact hjn)]; simp
      · rw [getD_set_ne' e, h1 i hi hie]; omega
    have hIw : I w := by
      obtain ⟨k, _, hkn, hD⟩ := hJ.phase
      exact KD_inv hst hI0 hkn w hD
    unfold wpOp
    simp only [ho]
    rw [hwant]
    rcases hs.how with ⟨hw, hv, hDD⟩ | ⟨hw, hpure, heff⟩
    · rw [if_neg (by rw [hw]; simp)]
      rw [← hv]
      refine cont w ?_
      cases hp : isE ol ops j with
      | false => exact stay hp
      | true => exact on hp w (by rw [hDD]; exact (hph0 hp).2)
    · rw [if_pos hw]
      refine .inl ?_
      unfold Oper.wp
      rw [hex]
      cases hc : clsEo ol o with
      | false =>
        rw [hpure hc w hIw]
        exact cont w (stay (by simp [isE, ho, hc]))
      | true =>
        have hp' : isE ol ops j = true := by simp [isE, ho, hc]
        have hDj := (hph0 hp').2
        have hq := heff hc w hDj
        unfold effAt at hq
        generalize (execOp (A j).eval o).run P w = r at hq
        cases r with
        | ok n w' =>
          cases n <;> simp only at hq <;> simp only [Oper.upon]
          case value u => obtain ⟨rfl, hC⟩ := hq; exact cont _ (on hp' _ hC)
          case skip => obtain ⟨hv, hC⟩ := hq; rw [← hv]; exact cont _ (on hp' _ hC)
          case enter f args =>
            refine hq.mono fun e w'' ⟨he, hC⟩ => ?_
            subst he
            exact cont _ (on hp' _ hC)
        | halt h w' => simp only at hq
end

theorem wp_region_keep {id : Nat} {Q : Exit → Act → World → Prop} {a : Act} {w : World} {C : World → Prop} {l : List Oper} (hm : P.follows .mixedOrders = true) (hB : keepB ol l.toArray = true) (hC : C { w with drawn := w.drawn + 1 }) (hI : ∀ w, C w → I w)
    (h : KW P l.toArray ol I (Q .normal) l C a) : (Code.region id l.toArray true).wp P Q a w := by
  refine wp_region_any hm ?_
  obtain ⟨A, D, V, hA, hD, hst, hfin⟩ := KW.data l 0 C a h
  simp only [Nat.zero_add] at hst hfin
  have hst' : ∀ j o, l.toArray[j]? = some o → KStep P l.toArray ol I o (A j) (A (j + 1)) (D j) (D (j + 1)) (V j) := fun j o ho => hst j o (by simpa using ho)
  refine KJ.sound (A := A) (D := D) (V := V) hB hst' (by rw [hD]; exact hI) (by simpa using hfin) _ (List.range l.toArray.size) _ _ _ ⟨by simp, by rw [hA], by rw [hA], fun j hj => ?_, fun i t hi hd hl => ?_, fun t _ => by rw [hA], 0, fun i hi he => ?_, Nat.zero_le _, by rw [hD]; exact hC⟩ (fun i hi _ => List.mem_range.2 hi) (by simp)
  · rw [getD_replicate_false] at hj; cases hj
  · rw [getD_replicate_false] at hl; cases hl
  · rw [getD_replicate_false]; simp
end
end Go.Proofs.Ytnckabgaichkkaa.Eng
