/-
The two states side by side: each step keeps them alike.
-/
import Derived.Test.YtjejnlfbonpfaaaDoorSig6
namespace Go.Proofs.YtjejnlfbonpfaaaDoor
set_option linter.unusedVariables false
set_option linter.unusedSimpArgs false
open Eng
theorem ok_half {w : Int} (h : okw w = true) : ∃ k : Nat, k ∈ evens ∧ w = ((2 * k : Nat) : Int) := by
  simp only [okw, decide_eq_true_eq] at h
  exact ⟨(w / 2).toNat, List.mem_range.2 (by omega), by omega⟩
theorem sig_of {i : Int} (h : 1 ≤ i ∧ i ≤ 8) : ∃ m : Nat, m ∈ sigs ∧ i = (m : Int) := by
  refine ⟨i.toNat, ?_, by omega⟩
  have : i.toNat = 1 ∨ i.toNat = 2 ∨ i.toNat = 3 ∨ i.toNat = 4 ∨ i.toNat = 5 ∨ i.toNat = 6 ∨ i.toNat = 7 ∨ i.toNat = 8 := by omega
  simp only [sigs, List.mem_cons, List.not_mem_nil, or_false]
  exact this
theorem sig_le {m : Nat} (h : m ∈ sigs) : 1 ≤ m ∧ m ≤ 8 := by
  simp only [sigs, List.mem_cons, List.not_mem_nil, or_false] at h
  omega
theorem set_ok {w i : Int} (h : okw w = true) (hi : 1 ≤ i ∧ i ≤ 8) : okw (setb w i) = true ∧ ∀ j ∈ sigs, bit (setb w i) (j : Nat) = (((j : Nat) : Int) == i || bit w (j : Nat)) := by
  obtain ⟨k, hk, rfl⟩ := ok_half h
  obtain ⟨m, hm, rfl⟩ := sig_of hi
  have := chkSet_ok
  simp only [chkSet, List.all_eq_true] at this
  have h1 := this k hk m hm
  simp only [Bool.and_eq_true, List.all_eq_true, beq_iff_eq] at h1
  refine ⟨h1.1, fun j hj => ?_⟩
  have e : (j == m) = (((j : Nat) : Int) == ((m : Nat) : Int)) := by rw [Bool.eq_iff_iff, beq_iff_eq, beq_iff_eq]; omega
  rw [← e]
  exact h1.2 j hj
theorem low_ok {w : Int} (h : okw w = true) (h0 : w ≠ 0) : 1 ≤ tz w ∧ tz w ≤ 8 ∧ bit w (tz w) = true ∧ okw (lowb w) = true ∧ (tz w = 8 → lowb w = 0) ∧ ∀ j ∈ sigs, (((j : Nat) : Int) < tz w → bit w (j : Nat) = false) ∧ bit (lowb w) (j : Nat) = (!(decide (((j : Nat) : Int) = tz w)) && bit w (j : Nat)) := by
  obtain ⟨k, hk, rfl⟩ := ok_half h
  have := chkLow_ok
  simp only [chkLow, List.all_eq_true] at this
  have h1 := this k hk
  have hk0 : (k == 0) = false := by
    cases hkk : k == 0 with
    | false => rfl
    | true => simp at hkk; subst hkk; exact absurd rfl h0
  rw [hk0, Bool.false_or] at h1
  simp only [Bool.and_eq_true, List.all_eq_true, decide_eq_true_eq, Bool.or_eq_true, Bool.not_eq_true', decide_eq_false_iff_not, beq_iff_eq] at h1
  obtain ⟨⟨⟨⟨⟨h2, h3⟩, h4⟩, h5⟩, h6⟩, h7⟩ := h1
  exact ⟨h2, h3, h4, h5, fun e => h6.resolve_left fun h => h e, fun j hj => ⟨fun hl => (h7 j hj).1.resolve_left fun h => h hl, (h7 j hj).2⟩⟩
theorem zero_bit {j : Nat} (h : j ∈ sigs) : bit 0 (j : Nat) = false := by
  have := chkZero_ok
  simp only [chkZero, List.all_eq_true, Bool.not_eq_true'] at this
  exact this j h
/-- The two states are alike. -/
structure Re (s : Sg) (r : Rf) : Prop where
  w : okw s.w = true
  g : ∀ j ∈ sigs, r.g j = bit s.w (j : Nat)
  h : r.h = s.h
  b : r.b = s.b
  c : r.c = s.c
  z : s.b = false → s.c = Cx.zero
def Rf.zero : Rf := ⟨fun _ => false, fun _ => 0, false, Cx.zero⟩
theorem re_zero : Re Sg.zero Rf.zero := ⟨rfl, fun j hj => (zero_bit hj).symm, rfl, rfl, rfl, fun _ => rfl⟩
theorem re_fork {s : Sg} {r : Rf} (h : Re s r) : Re { s with w := 0 } { r with g := fun _ => false } := ⟨rfl, fun j hj => (zero_bit hj).symm, h.h, h.b, h.c, h.z⟩
theorem re_exec {s : Sg} {r : Rf} (h : Re s r) : Re { Sg.zero with w := s.w } { Rf.zero with g := r.g } := ⟨h.w, h.g, rfl, rfl, rfl, fun _ => rfl⟩
theorem re_set {s : Sg} {r : Rf} (h : Re s r) (i : Nat) (a : Int) : Re { s with h := upd s.h i a } { r with h := upd r.h i a } := ⟨h.w, h.g, by rw [h.h], h.b, h.c, h.z⟩
theorem re_ret {s : Sg} {r : Rf} (h : Re s r) : Re s.ret { r with b := false, c := Cx.zero } ∧ (if s.b then s.c else Cx.zero) = r.c ∧ s.b = r.b := by
  unfold Sg.ret
  cases hb : s.b with
  | true => exact ⟨⟨h.w, h.g, h.h, rfl, rfl, fun _ => rfl⟩, by rw [h.c]; rfl, by rw [h.b, hb]⟩
  | false => exact ⟨⟨h.w, h.g, h.h, hb.symm, (h.z hb).symm, h.z⟩, by rw [h.c, h.z hb]; rfl, by rw [h.b, hb]⟩
theorem re_raise {s : Sg} {r : Rf} (h : Re s r) (i : Int) : Re (s.raise i) (r.raise i) := by
  unfold Sg.raise Rf.raise
  by_cases hi : 1 ≤ i ∧ i ≤ 8
  · rw [if_pos hi, if_pos hi]
    obtain ⟨h1, h2⟩ := set_ok h.w hi
    refine ⟨h1, fun j hj => ?_, h.h, h.b, h.c, h.z⟩
    show upd r.g i.toNat true j = bit (setb s.w i) j
    rw [h2 j hj]
    unfold upd
    by_cases e : j = i.toNat
    · rw [if_pos e]
      have : ((j : Int) == i) = true := by simp; omega
      rw [this]; rfl
    · rw [if_neg e]
      have : ((j : Int) == i) = false := by simp; omega
      rw [this, h.g j hj]; rfl
  · rw [if_neg hi, if_neg hi]
    exact h
theorem re_waits {s : Sg} {r : Rf} (h : Re s r) {i : Int} (hi : 1 ≤ i ∧ i ≤ 8) : r.g i.toNat = s.waits i := by
  obtain ⟨m, hm, rfl⟩ := sig_of hi
  rw [Int.toNat_natCast, h.g m hm]
  unfold Sg.waits bit
  simp [hi]
theorem waits_bit {s : Sg} {m : Nat} (h : m ∈ sigs) : s.waits (m : Nat) = bit s.w (m : Nat) := by
  have := sig_le h
  unfold Sg.waits bit
  have e : decide ((1 : Int) ≤ (m : Nat) ∧ ((m : Nat) : Int) ≤ 8) = true := by simp; omega
  rw [e]; rfl
/-- What both do next. -/
theorem re_next {s : Sg} {r : Rf} (h : Re s r) (b : Nat) (c : Cx) : ∃ r' : Rf, Re (s.next c).1 r' ∧
    Does Tryd.prog 16 [.pointer (some ⟨b, 0, none⟩), .agg c.cs.toArray] [cells b 34 r.cs] (fun _ : Unit => True) (fun _ => .tuple #[.int .i64 (s.next c).2.1, .int .i64 (s.next c).2.2.1, .agg (s.next c).2.2.2.cs.toArray]) (fun _ => [cells b 34 r'.cs]) := by
  have hg1 : r.g 1 = s.waits 1 := re_waits h (i := 1) ⟨by decide, by decide⟩
  cases e0 : s.waits 1 with
  | true =>
    have hn : s.next c = ({ s with w := 0 }, 1, 1, c) := by simp [Sg.next, e0]
    rw [hn]
    exact ⟨_, re_fork h, rnext_kill b r c (hg1.trans e0)⟩
  | false =>
    have g1 : r.g 1 = false := hg1.trans e0
    cases hb : s.b with
    | true =>
      have hn : s.next c = (s, 0, 0, c) := by simp [Sg.next, e0, hb]
      rw [hn]
      exact ⟨r, h, rnext_none b r c g1 (.inl (h.b.trans hb))⟩
    | false =>
      have rb : r.b = false := h.b.trans hb
      by_cases hw : s.w = 0
      · have hn : s.next c = (s, 0, 0, c) := by simp [Sg.next, e0, hw]
        rw [hn]
        refine ⟨r, h, rnext_none b r c g1 (.inr fun j h2 h8 => ?_)⟩
        obtain ⟨m, hm, rfl⟩ := sig_of (i := j) ⟨by omega, h8⟩
        rw [Int.toNat_natCast, h.g m hm, hw, zero_bit hm]
      · obtain ⟨l1, l8, lb, lo, le, lj⟩ := low_ok h.w hw
        obtain ⟨m, hm, hmt⟩ := sig_of ⟨l1, l8⟩
        have hgm : r.g (tz s.w).toNat = true := by rw [hmt, Int.toNat_natCast, h.g m hm, ← hmt, lb]
        have h2 : 2 ≤ tz s.w := by
          by_cases e : tz s.w = 1
          · rw [e] at hgm
            rw [show (1 : Int).toNat = 1 from rfl, g1] at hgm
            cases hgm
          · omega
        have hall : ∀ j : Int, 2 ≤ j → j < tz s.w → r.g j.toNat = false := fun j hj hl => by
          obtain ⟨q, hq, rfl⟩ := sig_of (i := j) ⟨by omega, by omega⟩
          rw [Int.toNat_natCast, h.g q hq]
          exact (lj q hq).1 hl
        have hlow : Re s.low { r with g := upd r.g (tz s.w).toNat false } := ⟨lo, fun j hj => by
          show upd r.g (tz s.w).toNat false j = bit (lowb s.w) j
          rw [(lj j hj).2]
          unfold upd
          by_cases e : j = (tz s.w).toNat
          · rw [if_pos e]
            have : decide ((j : Int) = tz s.w) = true := by simp; omega
            rw [this]; rfl
          · rw [if_neg e]
            have : decide ((j : Int) = tz s.w) = false := by simp; omega
            rw [this, h.g j hj]; rfl, h.h, h.b, h.c, h.z⟩
        by_cases hh : s.h (tz s.w).toNat = 0
        · have rh : r.h (tz s.w).toNat = 0 := by rw [h.h]; exact hh
          by_cases h9 : tz s.w = 8
          · have hh' : s.h 8 = 0 := by rw [h9] at hh; exact hh
            have hn : s.next c = (s.low, 0, 0, c) := by simp [Sg.next, e0, hb, hw, hh', h9]
            rw [hn]
            rw [h9] at hlow hall hgm rh
            exact ⟨_, hlow, rnext_skip b r c g1 rb hall hgm rh⟩
          · have hn : s.next c = (s.low, 1, tz s.w, c) := by simp [Sg.next, e0, hb, hw, hh, h9]
            rw [hn]
            exact ⟨_, hlow, rnext_die b r c _ h2 l8 g1 rb hall hgm rh h9⟩
        · have rh : r.h (tz s.w).toNat ≠ 0 := by rw [h.h]; exact hh
          have hn : s.next c = ({ s.low with b := true, c := c }, 2, tz s.w, { c with pc := s.h (tz s.w).toNat, r := upd c.r 1 (IntKind.u32.wrap (tz s.w)) }) := by simp [Sg.next, e0, hb, hw, hh]
          rw [hn]
          refine ⟨{ g := upd r.g (tz s.w).toNat false, h := s.h, b := true, c := c }, ⟨hlow.w, hlow.g, rfl, rfl, rfl, fun h => by cases h⟩, ?_⟩
          have := rnext_run b r c _ h2 l8 g1 rb hall hgm rh
          rw [h.h] at this
          exact this
theorem next_z {s : Sg} {r : Rf} (h : Re s r) : s.w ≠ 0 → 1 ≤ tz s.w ∧ tz s.w ≤ 8 ∧ (tz s.w = 8 → s.low.w = 0) := fun h0 => by
  obtain ⟨l1, l8, _, _, le, _⟩ := low_ok h.w h0
  exact ⟨l1, l8, le⟩
end Go.Proofs.YtjejnlfbonpfaaaDoor
