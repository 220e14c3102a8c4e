/-
Parents live as long as the first one lives: the law of the parents.
-/
import Derived.Test.YtmfnjmmdchlkiaaPr10
namespace Go.Proofs.Ytmfnjmmdchlkiaa
set_option linter.unusedVariables false
set_option linter.unusedSimpArgs false
open Eng
theorem in_upd {e : Tb} {k : Nat} {x : Pe} {i : Int} (h : inB e i = true) (hx : k = i.toNat → x.s = 1) : inB (upd e k x) i = true := by
  obtain ⟨h1, h2, h3⟩ := in_iff.1 h
  refine in_iff.2 ⟨h1, h2, ?_⟩
  unfold Eng.upd
  split
  · rename_i he; exact hx he.symm
  · exact h3
/-- Each one's parent is alive. -/
def Pa (e : Tb) : Prop := ∀ k, 2 ≤ k → k ≤ 7 → (e k).s ≠ 0 → inB e (e k).p = true
theorem pa_upd {e : Tb} (h : Pa e) {k : Nat} {x : Pe} (h1 : (e k).s = 1 → x.s = 1) (hx : x.s ≠ 0 → inB (upd e k x) x.p = true) : Pa (upd e k x) := by
  intro j h2 h7 hs
  by_cases hj : j = k
  · subst hj
    have he : upd e j x j = x := by unfold Eng.upd; rw [if_pos rfl]
    rw [he] at hs ⊢
    exact hx hs
  · have he : upd e k x j = e j := by unfold Eng.upd; rw [if_neg hj]
    rw [he] at hs ⊢
    have := h j h2 h7 hs
    exact in_upd this (fun hk => h1 (by rw [hk]; exact (in_iff.1 this).2.2))
theorem pa_first : Pa first := by
  intro k h2 h7 hs
  have he : first k = Pe.zero := by unfold first Eng.upd; rw [if_neg (by omega)]; rfl
  rw [he] at hs
  exact absurd rfl hs
theorem lf_free {e : Tb} {k : Nat} : ∀ n i, lf e i n = some k → (e k).s = 0
  | 0, i, h => by simp [lf] at h
  | n + 1, i, h => by
    simp only [lf] at h
    split at h
    · rename_i h0; cases h; exact h0
    · exact lf_free n (i + 1) h
theorem pa_fork {e : Tb} (h : Pa e) (i : Int) : Pa (fork e i).e := by
  by_cases hi : inB e i = true
  · unfold fork
    rw [if_pos hi]
    split
    · rename_i k hk
      have h0 := lf_free _ _ hk
      refine pa_upd h (fun hs => by omega) (fun _ => ?_)
      exact in_upd hi (fun _ => rfl)
    · exact h
  · unfold fork
    rw [if_neg hi]; exact h
theorem wf_done {e : Tb} {i : Int} {k : Nat} : ∀ m n, wf e i n m = some k → (e k).s = 2 ∧ n < k ∧ k ≤ n + m
  | 0, n, h => by simp [wf] at h
  | m + 1, n, h => by
    simp only [wf] at h
    split at h
    · rename_i h0; cases h; exact ⟨h0.1, by omega, by omega⟩
    · have := wf_done m (n + 1) h; omega
theorem pa_wait {e : Tb} (h : Pa e) (i : Int) : Pa (wait e i).e := by
  unfold wait
  split
  · split
    · rename_i k hk
      have h0 := wf_done _ _ hk
      exact pa_upd h (fun hs => by omega) (fun hs => absurd rfl hs)
    · exact h
  · exact h
theorem loop_at {f : Tb} (h1 : (f 1).s = 1) (i : Int) : ∀ n, ∀ j, loopX f i n j = if j < n ∧ (f j).s ≠ 0 ∧ (f j).p = i then { f j with p := 1 } else f j
  | 0, j => by rw [if_neg (by omega)]; rfl
  | n + 1, j => by
    have ih := loop_at h1 i n
    have hn : loopX f i n n = f n := by rw [ih n, if_neg (by omega)]
    rw [loopX_succ]
    by_cases hA : (loopX f i n n).s ≠ 0 ∧ (loopX f i n n).p = i
    · have h1n : (loopX f i n 1).s = 1 := by rw [ih 1]; split <;> exact h1
      have hr1 : inB (reP (loopX f i n) n) 1 = true := by
        refine in_iff.2 ⟨by omega, by omega, ?_⟩
        show (reP (loopX f i n) n 1).s = 1
        unfold reP Eng.upd
        split
        · rename_i he; subst he; exact h1n
        · exact h1n
      rw [stepB hA (fun hh => by rw [hr1] at hh; simp at hh)]
      unfold reP Eng.upd
      rw [hn] at hA ⊢
      by_cases hj : j = n
      · subst hj; rw [if_pos rfl, if_pos ⟨by omega, hA⟩]
      · rw [if_neg hj, ih j]
        by_cases hl : j < n ∧ (f j).s ≠ 0 ∧ (f j).p = i
        · rw [if_pos hl, if_pos ⟨by omega, hl.2⟩]
        · rw [if_neg hl, if_neg (fun hh => hl ⟨by omega, hh.2⟩)]
    · rw [stepA hA, ih j]
      rw [hn] at hA
      by_cases hl : j < n ∧ (f j).s ≠ 0 ∧ (f j).p = i
      · rw [if_pos hl, if_pos ⟨by omega, hl.2⟩]
      · rw [if_neg hl, if_neg (fun hh => by
          by_cases hj : j = n
          · subst hj; exact hA hh.2
          · exact hl ⟨by omega, hh.2⟩)]
theorem pa_loop {e : Tb} (h : Pa e) (h1 : (e 1).s = 1) {i u : Int} (hi : inB e i = true) (hne : i ≠ 1) : Pa (loopX (doneP e i.toNat u) i 8) := by
  obtain ⟨i1, i7, is⟩ := in_iff.1 hi
  have hd : ∀ j, doneP e i.toNat u j = if j = i.toNat then ⟨2, (e i.toNat).p, u⟩ else e j := fun j => by unfold doneP Eng.upd; rfl
  have hd1 : (doneP e i.toNat u 1).s = 1 := by rw [hd, if_neg (by omega)]; exact h1
  have hs : ∀ j, (loopX (doneP e i.toNat u) i 8 j).s = (doneP e i.toNat u j).s := fun j => by rw [loop_at hd1]; split <;> rfl
  have hp : ∀ j, (doneP e i.toNat u j).p = (e j).p := fun j => by
    rw [hd]
    split
    · rename_i hj; rw [hj]
    · rfl
  have hin : ∀ v, inB e v = true → v ≠ i → inB (loopX (doneP e i.toNat u) i 8) v = true := fun v hv hvi => by
    obtain ⟨v1, v7, vs⟩ := in_iff.1 hv
    refine in_iff.2 ⟨v1, v7, ?_⟩
    rw [hs, hd, if_neg (by omega)]; exact vs
  intro k h2 h7 hk
  have hek : (e k).s ≠ 0 := by
    rw [hs, hd] at hk
    by_cases hj : k = i.toNat
    · rw [hj]; omega
    · rw [if_neg hj] at hk; exact hk
  have hpk := h k h2 h7 hek
  by_cases hc : (doneP e i.toNat u k).s ≠ 0 ∧ (doneP e i.toNat u k).p = i
  · rw [loop_at hd1, if_pos ⟨by omega, hc⟩]
    exact hin 1 (in_iff.2 ⟨by omega, by omega, h1⟩) (fun hh => hne hh.symm)
  · rw [loop_at hd1 i 8 k, if_neg (fun hh => hc hh.2), hp]
    refine hin _ hpk (fun hh => hc ⟨by rw [← hs]; exact hk, by rw [hp]; exact hh⟩)
theorem pa_exit {e : Tb} (h : Pa e) (h1 : (e 1).s = 1) (i u : Int) (h1' : inB (exit e i u).e 1 = true) : Pa (exit e i u).e := by
  rcases Bool.eq_false_or_eq_true (inB e i) with hi | hi
  · obtain ⟨i1, i7, is⟩ := in_iff.1 hi
    by_cases hne : i = 1
    · exfalso
      subst hne
      rw [exit_told hi (by omega)] at h1'
      have hk : ∀ n, (loopX (doneP e (1 : Int).toNat u) 1 n 1).s ≠ 1 := fun n => by
        induction n with
        | zero => show (doneP e 1 u 1).s ≠ 1; unfold doneP Eng.upd; rw [if_pos rfl]; show (2 : Int) ≠ 1; decide
        | succ n ih =>
          rw [loopX_succ]
          generalize loopX (doneP e (1 : Int).toNat u) 1 n = f at ih ⊢
          unfold stepX
          split
          · split
            · unfold Eng.upd
              split
              · show (0 : Int) ≠ 1; decide
              · unfold reP Eng.upd
                split
                · rename_i he; rw [← he]; exact ih
                · exact ih
            · unfold reP Eng.upd
              split
              · rename_i he; rw [← he]; exact ih
              · exact ih
          · exact ih
      exact hk 8 (in_iff.1 h1').2.2
    · have hl := pa_loop h h1 (u := u) hi hne
      by_cases hg : 1 < i ∧ inB (loopX (doneP e i.toNat u) i 8) (loopX (doneP e i.toNat u) i 8 i.toNat).p = false
      · rw [exit_gone hi hg]
        refine pa_upd hl (fun hs => ?_) (fun hs => absurd rfl hs)
        have hd1 : (doneP e i.toNat u 1).s = 1 := by unfold doneP Eng.upd; rw [if_neg (by omega)]; exact h1
        rw [loop_at hd1] at hs
        have : (doneP e i.toNat u i.toNat).s = 2 := by unfold doneP Eng.upd; rw [if_pos rfl]
        split at hs
        · simp only at hs; omega
        · omega
      · rw [exit_told hi hg]; exact hl
  · rw [exit_no hi]; exact h
theorem pa_deed {e : Tb} (h : Pa e) (h1 : inB e 1 = true) (d : Dd) (h1' : inB (deed e d) 1 = true) : Pa (deed e d) := by
  have hs1 : (e 1).s = 1 := (in_iff.1 h1).2.2
  by_cases hf : d.k = 0 ∨ d.k = 1 ∨ d.k = 2 ∨ d.k = 3
  · rw [deed_f hf]; exact pa_fork h _
  · by_cases hx : d.k = 4 ∨ d.k = 5
    · rw [deed_x hx] at h1' ⊢; exact pa_exit h hs1 _ _ h1'
    · by_cases hwt : d.k = 6 ∨ d.k = 7
      · rw [deed_w hwt]; exact pa_wait h _
      · rw [deed_o hf hx hwt]; exact h
/-- How many places are taken. -/
def cntF (e : Tb) : Nat → Nat
  | 0 => 0
  | n + 1 => cntF e n + (if (e (n + 1)).s = 0 then 0 else 1)
theorem cntF_le (e : Tb) : ∀ n, cntF e n ≤ n
  | 0 => Nat.le_refl _
  | n + 1 => by
    have := cntF_le e n
    simp only [cntF]
    split <;> omega
theorem cntF_clear {e : Tb} {k : Nat} (hs : (e k).s ≠ 0) (h1 : 1 ≤ k) : ∀ n, cntF (upd e k Pe.zero) n + (if k ≤ n then 1 else 0) = cntF e n
  | 0 => by rw [if_neg (by omega)]; rfl
  | n + 1 => by
    have ih := cntF_clear hs h1 n
    simp only [cntF]
    by_cases hk : k = n + 1
    · subst hk
      have he : (upd e (n + 1) Pe.zero (n + 1)).s = 0 := by unfold Eng.upd; rw [if_pos rfl]; rfl
      rw [if_neg (by omega)] at ih
      rw [he, if_pos rfl, if_pos (Nat.le_refl _), if_neg hs]; omega
    · have he : (upd e k Pe.zero (n + 1)) = e (n + 1) := by unfold Eng.upd; rw [if_neg (fun h => hk h.symm)]
      rw [he]
      by_cases hl : k ≤ n
      · rw [if_pos hl] at ih; rw [if_pos (show k ≤ n + 1 by omega)]; omega
      · rw [if_neg hl] at ih; rw [if_neg (show ¬ k ≤ n + 1 by omega)]; omega
/-- What a wait of the first one tells. -/
theorem wait_two (e : Tb) : ((wait e 1).a = 0 ∧ (wait e 1).u = 0 ∧ (wait e 1).b ≠ 0) ∨ ((wait e 1).b = 0 ∧ cntF (wait e 1).e 7 + 1 = cntF e 7 ∧ dnB (wait e 1).e (wait e 1).a = false ∧ inB (wait e 1).e (wait e 1).a = false) := by
  rcases Bool.eq_false_or_eq_true (inB e 1) with hi | hi
  · cases hk : wf e 1 0 7 with
    | some k =>
      obtain ⟨h2, h3, h4⟩ := wf_done _ _ hk
      right
      rw [wait_at hi hk]
      have he : (upd e k Pe.zero k).s = 0 := by unfold Eng.upd; rw [if_pos rfl]; rfl
      refine ⟨rfl, ?_, ?_, ?_⟩
      · have := cntF_clear (e := e) (k := k) (by omega) (by omega) 7
        rwa [if_pos (by omega)] at this
      · simp [dnB, he]
      · simp [inB, he]
    | none =>
      left
      rw [wait_none hi hk]
      refine ⟨rfl, rfl, ?_⟩
      show (if anyN e 1 7 = true then (7 : Int) else 16) ≠ 0
      split <;> decide
  · left
    rw [wait_no hi]
    exact ⟨rfl, rfl, by show (17 : Int) ≠ 0; decide⟩
theorem sp_in {e : Tb} {v : Int} (h : Ok2 e) (hp : Pa e) (hv : 2 ≤ v ∧ v ≤ 7) (hs : inB e v = true ∨ dnB e v = true) : inB e (paV e v) = true := by
  have hv' : 1 ≤ v ∧ v ≤ 7 := ⟨by omega, hv.2⟩
  rw [pa_in h hv']
  refine hp _ (by omega) (by omega) ?_
  rcases hs with hs | hs
  · rw [in_in hv'] at hs; have := of_decide_eq_true hs; omega
  · rw [dn_in hv'] at hs; have := of_decide_eq_true hs; omega
attribute [local irreducible] Eng.Hold Eng.Z Eng.S Eng.cells Eng.old Eng.own tcs Pe.cs inB
attribute [local irreducible] i64p dnB stV paB paV lvN first fork exit wait deed Dd.cs cntV cntF Pa
set_option maxHeartbeats 8000000 in
theorem procParents (W : World) (A0 : Option Addr) (c0 : Nat) (D : List Dd) (hrd : Rds [old W] A0 (D.flatMap Dd.cs)) (hx : D.length ≤ 9223372036854775807) :
    Does Try.prog 7 [.slice A0 D.length c0] [old W] (fun _ : Unit => True) (fun _ => .bool true) (fun _ => [old W]) := by
  intro w hw
  have hne0 : 0 < D.length → A0 ≠ none := fun h => hrd.ne hw (by rw [flat_len Dd.cs 3 dd_len]; omega)
  have hf1 : inB first 1 = true := by decide +kernel
  refine f_enter Try.func7 rfl Try.ntmps7 rfl hw ?_
  repeat' (first
   | (refine s_is ?_; first
   | (refine s_isw ?_; first
   | (refine s_isloop ?_; first
   | ((refine c_loop (X := Nat × Tb) (fun y => y.1 ≤ D.length ∧ Ok2 y.2 ∧ inB y.2 1 = true ∧ Pa y.2) (fun y => [(0, .slice A0 D.length c0), (3, .pointer (some ⟨g1, 0, none⟩)), (4, .pointer (some ⟨g2, 0, none⟩)), (5, .int .i64 y.1)]) (fun y => [cells g1 105 (tcs y.2), cells g2 69 (tcs y.2), old W]) (fun y => D.length - y.1) (0, first) ⟨Nat.zero_le _, ok2_first, hf1, pa_first⟩ ⟨rfl, rfl, rfl, rfl, trivial⟩ (fun w h => h) (fun y hy => ?_); obtain ⟨i, e⟩ := y; obtain ⟨hi, hok, h1, hpa⟩ := hy; dsimp only at hi hok h1 hpa ⊢; refine hold ?_)))
   | refine c_seq ?_
   | refine c_block ?_
   | refine c_region ?_
   | refine c_mixed mixed (by kernel_rfl) ?_
   | refine c_skip ?_
   | refine c_ret ?_
   | refine c_exit ?_
   | (refine s_iscond ?_; first
   | (refine c_true rfl (by first | with_reducible rfl | with_reducible assumption | ((with_reducible refine decide_eq_true ?_); first | with_reducible rfl | with_reducible assumption | omega)) ?_)
   | (refine c_false rfl (by first | with_reducible rfl | with_reducible assumption | ((with_reducible refine decide_eq_false ?_); first | with_reducible assumption | omega)) ?_)
   | (refine c_true rfl (by first | (simp only [Bool.not_eq_true', decide_eq_false_iff_not]; omega) | (with_reducible assumption) | (rw [decide_eq_false] <;> (first | omega | with_reducible rfl)) | (rw [decide_eq_true] <;> (first | omega | with_reducible rfl)) | (simp; done) | (simp; omega)) ?_)
   | (refine c_false rfl (by first | (simp only [Bool.not_eq_false', decide_eq_true_eq]; omega) | (with_reducible assumption) | (rw [decide_eq_false] <;> (first | omega | with_reducible rfl)) | (rw [decide_eq_true] <;> (first | omega | with_reducible rfl)) | (simp; done) | (simp; omega)) ?_)
   | refine c_cond rfl (fun hc => ?_) (fun hc => ?_)
   | refine c_condb rfl (fun hc => ?_) (fun hc => ?_)))
   | refine x_then ?_
   | refine x_then_ret ?_
   | refine x_then_exit ?_
   | refine x_block _ ?_
   | refine x_block_ret _ ?_
   | refine x_block_exit _ ?_
   | refine x_block_past (by decide) ?_
   | refine z_tailm ?_)
   | (refine z_isg1 ?_; first
   | refine z_skipu (by decide) rfl rfl ?_
   | (refine z_want1 rfl rfl (by first | with_reducible rfl | with_reducible assumption | ((with_reducible refine decide_eq_true ?_); first | with_reducible rfl | with_reducible assumption | omega)) ?_)
   | (refine z_skip1 (by decide) rfl rfl (by first | with_reducible rfl | with_reducible assumption | ((with_reducible refine decide_eq_false ?_); first | with_reducible assumption | omega)) ?_)
   | (refine z_want1 rfl rfl (by first | (simp only [Bool.not_eq_true', decide_eq_false_iff_not]; omega) | (with_reducible assumption) | (rw [decide_eq_false] <;> (first | omega | with_reducible rfl)) | (rw [decide_eq_true] <;> (first | omega | with_reducible rfl)) | (simp; done) | (simp; omega)) ?_)
   | (refine z_skip1 (by decide) rfl rfl (by first | (simp only [Bool.not_eq_false', decide_eq_true_eq]; omega) | (with_reducible assumption) | (rw [decide_eq_false] <;> (first | omega | with_reducible rfl)) | (rw [decide_eq_true] <;> (first | omega | with_reducible rfl)) | (simp; done) | (simp; omega)) ?_)
   | refine z_guard1 (by decide) rfl rfl (fun hc => ?_) (fun hc => ?_)
   | refine z_guardb (by decide) rfl rfl (fun hc => ?_) (fun hc => ?_))
   | (refine z_isg0 ?_; first
   | refine z_skipu (by decide) rfl rfl ?_
   | (refine z_want0 rfl rfl (by first | with_reducible rfl | with_reducible assumption | ((with_reducible refine decide_eq_false ?_); first | with_reducible assumption | omega)) ?_)
   | (refine z_skip0 (by decide) rfl rfl (by first | with_reducible rfl | with_reducible assumption | ((with_reducible refine decide_eq_true ?_); first | with_reducible rfl | with_reducible assumption | omega)) ?_)
   | (refine z_want0 rfl rfl (by first | (simp only [Bool.not_eq_false', decide_eq_true_eq]; omega) | (with_reducible assumption) | (rw [decide_eq_false] <;> (first | omega | with_reducible rfl)) | (rw [decide_eq_true] <;> (first | omega | with_reducible rfl)) | (simp; done) | (simp; omega)) ?_)
   | (refine z_skip0 (by decide) rfl rfl (by first | (simp only [Bool.not_eq_true', decide_eq_false_iff_not]; omega) | (with_reducible assumption) | (rw [decide_eq_false] <;> (first | omega | with_reducible rfl)) | (rw [decide_eq_true] <;> (first | omega | with_reducible rfl)) | (simp; done) | (simp; omega)) ?_)
   | refine z_guard0 (by decide) rfl rfl (fun hc => ?_) (fun hc => ?_)
   | refine z_guardb (by decide) rfl rfl (fun hc => ?_) (fun hc => ?_))
   | (refine z_isnil ?_; first
   | refine z_list ?_
   | refine z_mixed ?_
   | refine z_mono0 ?_
   | refine z_mono1 (by decide) fun g => ?_
   | refine z_mono2 (by decide) (by decide) fun g g' => ?_
   | refine z_mixedx ?_
   | refine z_quiet ?_)
   | (refine z_isop ?_; first
   | refine o_indexm tabOk rfl rfl rfl rfl (by omega) (by omega) (by decide) ?_
   | refine o_build0 (t := 102) (v := .agg Pe.zero.cs.toArray) (fun _ => by kernel_rfl) (by decide) ?_
   | refine o_build0 (t := 66) (v := .agg Pe.zero.cs.toArray) (fun _ => by kernel_rfl) (by decide) ?_
   | refine o_alloca (e := 102) (vs := Pe.zero.cs) rfl (by kernel_rfl) (by decide) fun g => ?_
   | refine o_alloca (e := 66) (vs := Pe.zero.cs) rfl (by kernel_rfl) (by decide) fun g => ?_
   | refine o_boxa rfl rfl (by decide) fun g => ?_
   | (refine z_isbin ?_; first
   | (refine z_isb .add ?_; first
   | refine o_add rfl rfl (by omega) (by omega) (by decide) ?_
   | refine o_addw rfl rfl (by decide) ?_)
   | (refine z_isb .eql ?_; first
   | refine o_eq rfl rfl (by decide) ?_
   | refine o_beq tabOk rfl rfl rfl (by decide) ?_
   | refine o_peq tabOk rfl rfl (by decide) ?_)
   | (refine z_isb .neq ?_; first
   | refine o_ne rfl rfl (by decide) ?_
   | refine o_bne tabOk rfl rfl rfl (by decide) ?_
   | refine o_pne tabOk rfl rfl (by decide) ?_)
   | (refine z_isb .lss ?_; first
   | refine o_lt rfl rfl (by decide) ?_)
   | (refine z_isb .leq ?_; first
   | refine o_le rfl rfl (by decide) ?_))
   | (refine z_isload ?_; first
   | refine o_loadp tabOk rfl rfl rfl 0 rfl (pe_len _) (tcs_el _ (by omega)) (by decide) ?_
   | refine o_loadp tabOk rfl rfl rfl 1 rfl (pe_len _) (tcs_el _ (by omega)) (by decide) ?_
   | (refine z_ld1 tabOk rfl rfl ?_; first
   | refine o_loadm tabOk rfl rfl rfl (by repeat' (first | exact List.mem_cons_self | apply List.mem_cons_of_mem)) (by first | exact tcs_s _ (by omega) | exact tcs_p _ (by omega) | exact tcs_u _ (by omega) | exact dd_k _ | exact dd_n _ | exact dd_u _ | rfl) (by decide) ?_
   | refine o_loads tabOk (by first | assumption | exact Rds.cons _ (by assumption) | exact Rds.cons _ (Rds.cons _ (by assumption)) | exact own_rds 0 rfl | exact own_rds 1 rfl | exact own_rds 2 rfl) rfl rfl rfl (by first | exact tcs_s _ (by omega) | exact tcs_p _ (by omega) | exact tcs_u _ (by omega) | exact dd_k _ | exact dd_n _ | exact dd_u _ | rfl) (by decide) ?_)
   | (refine z_ldw tabOk rfl rfl ?_; first
   | refine o_loadwm tabOk rfl rfl rfl (by repeat' (first | exact List.mem_cons_self | apply List.mem_cons_of_mem)) (by first | exact dd_len _ | (simp only [dd_len]) | rfl) (by decide) ?_))
   | (refine z_iscall ?_; first
   | ((refine z_iscallf 26 ?_; refine o_calla Try.func26 rfl rfl rfl (rnew_c _) (by decide) fun g2 _ => ?_; refine z_sel rfl 3 [1, 0, 2] (by decide) ?_))
   | ((refine z_iscallf 54 ?_; refine o_callr rfl Try.func54 rfl rfl rfl (in_c _ _ _ _ (by first | exact cells_rds 0 rfl | exact cells_rds 1 rfl | exact cells_rds 2 rfl)) (by decide) ?_))
   | ((refine z_iscallf 57 ?_; refine o_callr rfl Try.func57 rfl rfl rfl (ralive_c _ _ _ _ (by first | exact cells_rds 0 rfl | exact cells_rds 1 rfl | exact cells_rds 2 rfl)) (by decide) ?_))
   | ((refine z_iscallf 32 ?_; refine o_fn rfl Try.func32 rfl rfl rfl (awake_p) (by decide) ?_))
   | ((refine z_iscallf 25 ?_; refine o_calla Try.func25 rfl rfl rfl (new_c _) (by decide) fun g1 _ => ?_))
   | ((refine z_iscallf 26 ?_; refine o_calla Try.func26 rfl rfl rfl (rnew_c _) (by decide) fun g2 _ => ?_))
   | ((refine z_iscallf 28 ?_; refine o_callr rfl Try.func28 rfl rfl rfl (alive_c _ _ _ _ (cells_rds 0 rfl)) (by decide) ?_))
   | ((refine z_iscallf 29 ?_; refine o_callr rfl Try.func29 rfl rfl rfl (status_c _ _ _ _ (cells_rds 0 rfl)) (by decide) ?_))
   | ((refine z_iscallf 30 ?_; refine o_callr rfl Try.func30 rfl rfl rfl (parent_c _ _ _ _ (cells_rds 0 rfl)) (by decide) ?_))
   | ((refine z_iscallf 31 ?_; refine o_call Try.func31 rfl rfl rfl (wait_c _ _ _) (List.Perm.refl _) (by decide) fun _ _ => ?_)))
   | (refine z_ispick ?_; first
   | (refine o_pick1 rfl (by first | with_reducible rfl | with_reducible assumption | ((with_reducible refine decide_eq_true ?_); first | with_reducible rfl | with_reducible assumption | omega)) rfl (by decide) ?_)
   | (refine o_pick0 rfl (by first | with_reducible rfl | with_reducible assumption | ((with_reducible refine decide_eq_false ?_); first | with_reducible assumption | omega)) rfl (by decide) ?_)
   | (refine o_pick1 rfl (by first | (simp only [Bool.not_eq_true', decide_eq_false_iff_not]; omega) | (with_reducible assumption) | (rw [decide_eq_false] <;> (first | omega | with_reducible rfl)) | (rw [decide_eq_true] <;> (first | omega | with_reducible rfl)) | (simp; done) | (simp; omega)) rfl (by decide) ?_)
   | (refine o_pick0 rfl (by first | (simp only [Bool.not_eq_false', decide_eq_true_eq]; omega) | (with_reducible assumption) | (rw [decide_eq_false] <;> (first | omega | with_reducible rfl)) | (rw [decide_eq_true] <;> (first | omega | with_reducible rfl)) | (simp; done) | (simp; omega)) rfl (by decide) ?_))
   | (refine z_isix ?_; first
   | refine o_index0 tabOk rfl rfl rfl rfl (by omega) (by omega) (by decide) ?_
   | refine o_index1 tabOk rfl rfl rfl rfl (by omega) (by omega) (by decide) ?_
   | refine o_indexsk1 tabOk rfl rfl rfl rfl (by omega) (by omega) (by decide) ?_
   | refine o_indexsk tabOk rfl rfl rfl rfl (by omega) (by omega) (by decide) ?_
   | refine o_indexs1 tabOk (by first | assumption) rfl rfl rfl rfl (by omega) (by omega) (by decide) ?_)
   | (refine z_isbi ?_; first
   | refine o_len tabOk rfl rfl (by decide) ?_
   | refine o_min rfl rfl (by decide) ?_
   | refine o_max rfl rfl (by decide) ?_)
   | refine o_move rfl (by decide) ?_
   | refine o_assign rfl (by decide) ?_
   | refine o_nil rfl (by decide) ?_
   | refine o_extract rfl rfl (by decide) ?_
   | refine o_not rfl (by decide) ?_
   | refine o_field0 tabOk rfl rfl rfl rfl rfl (by decide) ?_
   | refine o_field tabOk rfl rfl rfl rfl rfl (by decide) ?_
   | refine o_conv tabOk rfl rfl rfl (by decide) ?_))
  refine Hold.go ?_
  by_cases hlt : i < D.length
  · by_cases h60 : i < 60
    · obtain ⟨d, hd⟩ : ∃ d, D[i]? = some d := ⟨D[i], List.getElem?_eq_getElem hlt⟩
      have hok' := hok.deed d
      have hpa' := pa_deed hpa h1 d
      rcases Bool.eq_false_or_eq_true (inB (deed e d) 1) with hz | hz
      · have hz1 : (!inB (deed e d) 1) = false := by rw [hz]; rfl
        have hpa2 := hpa' hz
        repeat' (first
         | (refine s_is ?_; first
         | (refine s_isw ?_; first
         | (refine s_isloop ?_; first
         | ((refine c_loop (X := Nat) (fun k => k ≤ 6) (fun k => [(0, .slice A0 D.length c0), (3, .pointer (some ⟨g1, 0, none⟩)), (4, .pointer (some ⟨g2, 0, none⟩)), (5, .int .i64 i), (6, .int .i64 ((k : Int) + 2))]) (fun k => [cells g1 105 (tcs (deed e d)), cells g2 69 (tcs (deed e d)), old W]) (fun k => 6 - k) 0 (Nat.zero_le _) ⟨rfl, rfl, rfl, rfl, rfl, trivial⟩ (fun w h => h) (fun k hk => ?_); refine hold ?_)))
         | refine c_seq ?_
         | refine c_block ?_
         | refine c_region ?_
         | refine c_mixed mixed (by kernel_rfl) ?_
         | refine c_skip ?_
         | refine c_ret ?_
         | refine c_exit ?_
         | (refine s_iscond ?_; first
         | (refine c_true rfl (by first | with_reducible rfl | with_reducible assumption | ((with_reducible refine decide_eq_true ?_); first | with_reducible rfl | with_reducible assumption | omega)) ?_)
         | (refine c_false rfl (by first | with_reducible rfl | with_reducible assumption | ((with_reducible refine decide_eq_false ?_); first | with_reducible assumption | omega)) ?_)
         | (refine c_true rfl (by first | (simp only [Bool.not_eq_true', decide_eq_false_iff_not]; omega) | (with_reducible assumption) | (rw [decide_eq_false] <;> (first | omega | with_reducible rfl)) | (rw [decide_eq_true] <;> (first | omega | with_reducible rfl)) | (simp; done) | (simp; omega)) ?_)
         | (refine c_false rfl (by first | (simp only [Bool.not_eq_false', decide_eq_true_eq]; omega) | (with_reducible assumption) | (rw [decide_eq_false] <;> (first | omega | with_reducible rfl)) | (rw [decide_eq_true] <;> (first | omega | with_reducible rfl)) | (simp; done) | (simp; omega)) ?_)
         | refine c_cond rfl (fun hc => ?_) (fun hc => ?_)
         | refine c_condb rfl (fun hc => ?_) (fun hc => ?_)))
         | refine x_then ?_
         | refine x_then_ret ?_
         | refine x_then_exit ?_
         | refine x_block _ ?_
         | refine x_block_ret _ ?_
         | refine x_block_exit _ ?_
         | refine x_block_past (by decide) ?_
         | refine z_tailm ?_)
         | (refine z_isg1 ?_; first
         | refine z_skipu (by decide) rfl rfl ?_
         | (refine z_want1 rfl rfl (by first | with_reducible rfl | with_reducible assumption | ((with_reducible refine decide_eq_true ?_); first | with_reducible rfl | with_reducible assumption | omega)) ?_)
         | (refine z_skip1 (by decide) rfl rfl (by first | with_reducible rfl | with_reducible assumption | ((with_reducible refine decide_eq_false ?_); first | with_reducible assumption | omega)) ?_)
         | (refine z_want1 rfl rfl (by first | (simp only [Bool.not_eq_true', decide_eq_false_iff_not]; omega) | (with_reducible assumption) | (rw [decide_eq_false] <;> (first | omega | with_reducible rfl)) | (rw [decide_eq_true] <;> (first | omega | with_reducible rfl)) | (simp; done) | (simp; omega)) ?_)
         | (refine z_skip1 (by decide) rfl rfl (by first | (simp only [Bool.not_eq_false', decide_eq_true_eq]; omega) | (with_reducible assumption) | (rw [decide_eq_false] <;> (first | omega | with_reducible rfl)) | (rw [decide_eq_true] <;> (first | omega | with_reducible rfl)) | (simp; done) | (simp; omega)) ?_)
         | refine z_guard1 (by decide) rfl rfl (fun hc => ?_) (fun hc => ?_)
         | refine z_guardb (by decide) rfl rfl (fun hc => ?_) (fun hc => ?_))
         | (refine z_isg0 ?_; first
         | refine z_skipu (by decide) rfl rfl ?_
         | (refine z_want0 rfl rfl (by first | with_reducible rfl | with_reducible assumption | ((with_reducible refine decide_eq_false ?_); first | with_reducible assumption | omega)) ?_)
         | (refine z_skip0 (by decide) rfl rfl (by first | with_reducible rfl | with_reducible assumption | ((with_reducible refine decide_eq_true ?_); first | with_reducible rfl | with_reducible assumption | omega)) ?_)
         | (refine z_want0 rfl rfl (by first | (simp only [Bool.not_eq_false', decide_eq_true_eq]; omega) | (with_reducible assumption) | (rw [decide_eq_false] <;> (first | omega | with_reducible rfl)) | (rw [decide_eq_true] <;> (first | omega | with_reducible rfl)) | (simp; done) | (simp; omega)) ?_)
         | (refine z_skip0 (by decide) rfl rfl (by first | (simp only [Bool.not_eq_true', decide_eq_false_iff_not]; omega) | (with_reducible assumption) | (rw [decide_eq_false] <;> (first | omega | with_reducible rfl)) | (rw [decide_eq_true] <;> (first | omega | with_reducible rfl)) | (simp; done) | (simp; omega)) ?_)
         | refine z_guard0 (by decide) rfl rfl (fun hc => ?_) (fun hc => ?_)
         | refine z_guardb (by decide) rfl rfl (fun hc => ?_) (fun hc => ?_))
         | (refine z_isnil ?_; first
         | refine z_list ?_
         | refine z_mixed ?_
         | refine z_mono0 ?_
         | refine z_mono1 (by decide) fun g => ?_
         | refine z_mono2 (by decide) (by decide) fun g g' => ?_
         | refine z_mixedx ?_
         | refine z_quiet ?_)
         | (refine z_isop ?_; first
         | refine o_indexsn tabOk (hne0 (by omega)) rfl rfl rfl rfl (by omega) (by omega) (by decide) ?_
         | refine o_indexm tabOk rfl rfl rfl rfl (by omega) (by omega) (by decide) ?_
         | refine o_build0 (t := 102) (v := .agg Pe.zero.cs.toArray) (fun _ => by kernel_rfl) (by decide) ?_
         | refine o_build0 (t := 66) (v := .agg Pe.zero.cs.toArray) (fun _ => by kernel_rfl) (by decide) ?_
         | refine o_alloca (e := 102) (vs := Pe.zero.cs) rfl (by kernel_rfl) (by decide) fun g => ?_
         | refine o_alloca (e := 66) (vs := Pe.zero.cs) rfl (by kernel_rfl) (by decide) fun g => ?_
         | refine o_boxa rfl rfl (by decide) fun g => ?_
         | (refine z_isbin ?_; first
         | (refine z_isb .add ?_; first
         | refine o_add rfl rfl (by omega) (by omega) (by decide) ?_
         | refine o_addw rfl rfl (by decide) ?_)
         | (refine z_isb .eql ?_; first
         | refine o_eq rfl rfl (by decide) ?_
         | refine o_beq tabOk rfl rfl rfl (by decide) ?_
         | refine o_peq tabOk rfl rfl (by decide) ?_)
         | (refine z_isb .neq ?_; first
         | refine o_ne rfl rfl (by decide) ?_
         | refine o_bne tabOk rfl rfl rfl (by decide) ?_
         | refine o_pne tabOk rfl rfl (by decide) ?_)
         | (refine z_isb .lss ?_; first
         | refine o_lt rfl rfl (by decide) ?_)
         | (refine z_isb .leq ?_; first
         | refine o_le rfl rfl (by decide) ?_))
         | (refine z_isload ?_; first
         | (refine o_loadsw tabOk (Rds.cons _ (Rds.cons _ hrd)) rfl rfl rfl (es := d.cs) (dd_len _) (by rw [dd_len]; decide) (dd_at D d hd) (by decide) ?_)
         | refine o_loadp tabOk rfl rfl rfl 0 rfl (pe_len _) (tcs_el _ (by omega)) (by decide) ?_
         | refine o_loadp tabOk rfl rfl rfl 1 rfl (pe_len _) (tcs_el _ (by omega)) (by decide) ?_
         | (refine z_ld1 tabOk rfl rfl ?_; first
         | refine o_loadm tabOk rfl rfl rfl (by repeat' (first | exact List.mem_cons_self | apply List.mem_cons_of_mem)) (by first | exact tcs_s _ (by omega) | exact tcs_p _ (by omega) | exact tcs_u _ (by omega) | exact dd_k _ | exact dd_n _ | exact dd_u _ | rfl) (by decide) ?_
         | refine o_loads tabOk (by first | assumption | exact Rds.cons _ (by assumption) | exact Rds.cons _ (Rds.cons _ (by assumption)) | exact own_rds 0 rfl | exact own_rds 1 rfl | exact own_rds 2 rfl) rfl rfl rfl (by first | exact tcs_s _ (by omega) | exact tcs_p _ (by omega) | exact tcs_u _ (by omega) | exact dd_k _ | exact dd_n _ | exact dd_u _ | rfl) (by decide) ?_)
         | (refine z_ldw tabOk rfl rfl ?_; first
         | refine o_loadwm tabOk rfl rfl rfl (by repeat' (first | exact List.mem_cons_self | apply List.mem_cons_of_mem)) (by first | exact dd_len _ | (simp only [dd_len]) | rfl) (by decide) ?_))
         | (refine z_iscall ?_; first
         | ((refine z_iscallf 27 ?_; refine o_call Try.func27 rfl rfl rfl (does_c e hok _ _ d) (List.Perm.refl _) (by decide) fun _ _ => ?_))
         | ((refine z_iscallf 54 ?_; refine o_callr rfl Try.func54 rfl rfl rfl (in_c _ _ _ _ (by first | exact cells_rds 0 rfl | exact cells_rds 1 rfl | exact cells_rds 2 rfl)) (by decide) ?_))
         | ((refine z_iscallf 57 ?_; refine o_callr rfl Try.func57 rfl rfl rfl (ralive_c _ _ _ _ (by first | exact cells_rds 0 rfl | exact cells_rds 1 rfl | exact cells_rds 2 rfl)) (by decide) ?_))
         | ((refine z_iscallf 32 ?_; refine o_fn rfl Try.func32 rfl rfl rfl (awake_p) (by decide) ?_))
         | ((refine z_iscallf 25 ?_; refine o_calla Try.func25 rfl rfl rfl (new_c _) (by decide) fun g1 _ => ?_))
         | ((refine z_iscallf 26 ?_; refine o_calla Try.func26 rfl rfl rfl (rnew_c _) (by decide) fun g2 _ => ?_))
         | ((refine z_iscallf 28 ?_; refine o_callr rfl Try.func28 rfl rfl rfl (alive_c _ _ _ _ (cells_rds 0 rfl)) (by decide) ?_))
         | ((refine z_iscallf 29 ?_; refine o_callr rfl Try.func29 rfl rfl rfl (status_c _ _ _ _ (cells_rds 0 rfl)) (by decide) ?_))
         | ((refine z_iscallf 30 ?_; refine o_callr rfl Try.func30 rfl rfl rfl (parent_c _ _ _ _ (cells_rds 0 rfl)) (by decide) ?_))
         | ((refine z_iscallf 31 ?_; refine o_call Try.func31 rfl rfl rfl (wait_c _ _ _) (List.Perm.refl _) (by decide) fun _ _ => ?_)))
         | (refine z_ispick ?_; first
         | (refine o_pick1 rfl (by first | with_reducible rfl | with_reducible assumption | ((with_reducible refine decide_eq_true ?_); first | with_reducible rfl | with_reducible assumption | omega)) rfl (by decide) ?_)
         | (refine o_pick0 rfl (by first | with_reducible rfl | with_reducible assumption | ((with_reducible refine decide_eq_false ?_); first | with_reducible assumption | omega)) rfl (by decide) ?_)
         | (refine o_pick1 rfl (by first | (simp only [Bool.not_eq_true', decide_eq_false_iff_not]; omega) | (with_reducible assumption) | (rw [decide_eq_false] <;> (first | omega | with_reducible rfl)) | (rw [decide_eq_true] <;> (first | omega | with_reducible rfl)) | (simp; done) | (simp; omega)) rfl (by decide) ?_)
         | (refine o_pick0 rfl (by first | (simp only [Bool.not_eq_false', decide_eq_true_eq]; omega) | (with_reducible assumption) | (rw [decide_eq_false] <;> (first | omega | with_reducible rfl)) | (rw [decide_eq_true] <;> (first | omega | with_reducible rfl)) | (simp; done) | (simp; omega)) rfl (by decide) ?_))
         | (refine z_isix ?_; first
         | refine o_index0 tabOk rfl rfl rfl rfl (by omega) (by omega) (by decide) ?_
         | refine o_index1 tabOk rfl rfl rfl rfl (by omega) (by omega) (by decide) ?_
         | refine o_indexsk1 tabOk rfl rfl rfl rfl (by omega) (by omega) (by decide) ?_
         | refine o_indexsk tabOk rfl rfl rfl rfl (by omega) (by omega) (by decide) ?_
         | refine o_indexs1 tabOk (by first | assumption) rfl rfl rfl rfl (by omega) (by omega) (by decide) ?_)
         | (refine z_isbi ?_; first
         | refine o_len tabOk rfl rfl (by decide) ?_
         | refine o_min rfl rfl (by decide) ?_
         | refine o_max rfl rfl (by decide) ?_)
         | refine o_move rfl (by decide) ?_
         | refine o_assign rfl (by decide) ?_
         | refine o_nil rfl (by decide) ?_
         | refine o_extract rfl rfl (by decide) ?_
         | refine o_not rfl (by decide) ?_
         | refine o_field0 tabOk rfl rfl rfl rfl rfl (by decide) ?_
         | refine o_field tabOk rfl rfl rfl rfl rfl (by decide) ?_
         | refine o_conv tabOk rfl rfl rfl (by decide) ?_))
        refine Hold.go ?_
        by_cases h6 : k < 6
        · have hsp := sp_in (v := (k : Int) + 2) hok' hpa2 (by omega)
          rcases Bool.eq_false_or_eq_true (inB (deed e d) ((k : Int) + 2)) with ha | ha
          · have hs2 := hsp (.inl ha)
            have hs3 : (!inB (deed e d) (paV (deed e d) ((k : Int) + 2))) = false := by rw [hs2]; rfl
            repeat' (first
             | (refine s_is ?_; first
             | (refine s_isagain ?_; first
             | exact c_again (k + 1) (by omega) (by omega) ⟨rfl, rfl, rfl, rfl, rfl, trivial⟩ (fun w h => h))
             | (refine s_isw ?_; first
             | refine c_seq ?_
             | refine c_block ?_
             | refine c_region ?_
             | refine c_mixed mixed (by kernel_rfl) ?_
             | refine c_skip ?_
             | refine c_ret ?_
             | refine c_exit ?_
             | (refine s_iscond ?_; first
             | (refine c_true rfl (by first | with_reducible rfl | with_reducible assumption | ((with_reducible refine decide_eq_true ?_); first | with_reducible rfl | with_reducible assumption | omega)) ?_)
             | (refine c_false rfl (by first | with_reducible rfl | with_reducible assumption | ((with_reducible refine decide_eq_false ?_); first | with_reducible assumption | omega)) ?_)
             | (refine c_true rfl (by first | (simp only [Bool.not_eq_true', decide_eq_false_iff_not]; omega) | (with_reducible assumption) | (rw [decide_eq_false] <;> (first | omega | with_reducible rfl)) | (rw [decide_eq_true] <;> (first | omega | with_reducible rfl)) | (simp; done) | (simp; omega)) ?_)
             | (refine c_false rfl (by first | (simp only [Bool.not_eq_false', decide_eq_true_eq]; omega) | (with_reducible assumption) | (rw [decide_eq_false] <;> (first | omega | with_reducible rfl)) | (rw [decide_eq_true] <;> (first | omega | with_reducible rfl)) | (simp; done) | (simp; omega)) ?_)
             | refine c_cond rfl (fun hc => ?_) (fun hc => ?_)
             | refine c_condb rfl (fun hc => ?_) (fun hc => ?_)))
             | refine x_then ?_
             | refine x_then_ret ?_
             | refine x_then_exit ?_
             | refine x_block _ ?_
             | refine x_block_ret _ ?_
             | refine x_block_exit _ ?_
             | refine x_block_past (by decide) ?_
             | refine z_tailm ?_)
             | (refine z_isg1 ?_; first
             | refine z_skipu (by decide) rfl rfl ?_
             | (refine z_want1 rfl rfl (by first | with_reducible rfl | with_reducible assumption | ((with_reducible refine decide_eq_true ?_); first | with_reducible rfl | with_reducible assumption | omega)) ?_)
             | (refine z_skip1 (by decide) rfl rfl (by first | with_reducible rfl | with_reducible assumption | ((with_reducible refine decide_eq_false ?_); first | with_reducible assumption | omega)) ?_)
             | (refine z_want1 rfl rfl (by first | (simp only [Bool.not_eq_true', decide_eq_false_iff_not]; omega) | (with_reducible assumption) | (rw [decide_eq_false] <;> (first | omega | with_reducible rfl)) | (rw [decide_eq_true] <;> (first | omega | with_reducible rfl)) | (simp; done) | (simp; omega)) ?_)
             | (refine z_skip1 (by decide) rfl rfl (by first | (simp only [Bool.not_eq_false', decide_eq_true_eq]; omega) | (with_reducible assumption) | (rw [decide_eq_false] <;> (first | omega | with_reducible rfl)) | (rw [decide_eq_true] <;> (first | omega | with_reducible rfl)) | (simp; done) | (simp; omega)) ?_)
             | refine z_guard1 (by decide) rfl rfl (fun hc => ?_) (fun hc => ?_)
             | refine z_guardb (by decide) rfl rfl (fun hc => ?_) (fun hc => ?_))
             | (refine z_isg0 ?_; first
             | refine z_skipu (by decide) rfl rfl ?_
             | (refine z_want0 rfl rfl (by first | with_reducible rfl | with_reducible assumption | ((with_reducible refine decide_eq_false ?_); first | with_reducible assumption | omega)) ?_)
             | (refine z_skip0 (by decide) rfl rfl (by first | with_reducible rfl | with_reducible assumption | ((with_reducible refine decide_eq_true ?_); first | with_reducible rfl | with_reducible assumption | omega)) ?_)
             | (refine z_want0 rfl rfl (by first | (simp only [Bool.not_eq_false', decide_eq_true_eq]; omega) | (with_reducible assumption) | (rw [decide_eq_false] <;> (first | omega | with_reducible rfl)) | (rw [decide_eq_true] <;> (first | omega | with_reducible rfl)) | (simp; done) | (simp; omega)) ?_)
             | (refine z_skip0 (by decide) rfl rfl (by first | (simp only [Bool.not_eq_true', decide_eq_false_iff_not]; omega) | (with_reducible assumption) | (rw [decide_eq_false] <;> (first | omega | with_reducible rfl)) | (rw [decide_eq_true] <;> (first | omega | with_reducible rfl)) | (simp; done) | (simp; omega)) ?_)
             | refine z_guard0 (by decide) rfl rfl (fun hc => ?_) (fun hc => ?_)
             | refine z_guardb (by decide) rfl rfl (fun hc => ?_) (fun hc => ?_))
             | (refine z_isnil ?_; first
             | refine z_list ?_
             | refine z_mixed ?_
             | refine z_mono0 ?_
             | refine z_mono1 (by decide) fun g => ?_
             | refine z_mono2 (by decide) (by decide) fun g g' => ?_
             | refine z_mixedx ?_
             | refine z_quiet ?_)
             | (refine z_isop ?_; first
             | refine o_indexm tabOk rfl rfl rfl rfl (by omega) (by omega) (by decide) ?_
             | refine o_build0 (t := 102) (v := .agg Pe.zero.cs.toArray) (fun _ => by kernel_rfl) (by decide) ?_
             | refine o_build0 (t := 66) (v := .agg Pe.zero.cs.toArray) (fun _ => by kernel_rfl) (by decide) ?_
             | refine o_alloca (e := 102) (vs := Pe.zero.cs) rfl (by kernel_rfl) (by decide) fun g => ?_
             | refine o_alloca (e := 66) (vs := Pe.zero.cs) rfl (by kernel_rfl) (by decide) fun g => ?_
             | refine o_boxa rfl rfl (by decide) fun g => ?_
             | (refine z_isbin ?_; first
             | (refine z_isb .add ?_; first
             | refine o_add rfl rfl (by omega) (by omega) (by decide) ?_
             | refine o_addw rfl rfl (by decide) ?_)
             | (refine z_isb .eql ?_; first
             | refine o_eq rfl rfl (by decide) ?_
             | refine o_beq tabOk rfl rfl rfl (by decide) ?_
             | refine o_peq tabOk rfl rfl (by decide) ?_)
             | (refine z_isb .neq ?_; first
             | refine o_ne rfl rfl (by decide) ?_
             | refine o_bne tabOk rfl rfl rfl (by decide) ?_
             | refine o_pne tabOk rfl rfl (by decide) ?_)
             | (refine z_isb .lss ?_; first
             | refine o_lt rfl rfl (by decide) ?_)
             | (refine z_isb .leq ?_; first
             | refine o_le rfl rfl (by decide) ?_))
             | (refine z_isload ?_; first
             | refine o_loadp tabOk rfl rfl rfl 0 rfl (pe_len _) (tcs_el _ (by omega)) (by decide) ?_
             | refine o_loadp tabOk rfl rfl rfl 1 rfl (pe_len _) (tcs_el _ (by omega)) (by decide) ?_
             | (refine z_ld1 tabOk rfl rfl ?_; first
             | refine o_loadm tabOk rfl rfl rfl (by repeat' (first | exact List.mem_cons_self | apply List.mem_cons_of_mem)) (by first | exact tcs_s _ (by omega) | exact tcs_p _ (by omega) | exact tcs_u _ (by omega) | exact dd_k _ | exact dd_n _ | exact dd_u _ | rfl) (by decide) ?_
             | refine o_loads tabOk (by first | assumption | exact Rds.cons _ (by assumption) | exact Rds.cons _ (Rds.cons _ (by assumption)) | exact own_rds 0 rfl | exact own_rds 1 rfl | exact own_rds 2 rfl) rfl rfl rfl (by first | exact tcs_s _ (by omega) | exact tcs_p _ (by omega) | exact tcs_u _ (by omega) | exact dd_k _ | exact dd_n _ | exact dd_u _ | rfl) (by decide) ?_)
             | (refine z_ldw tabOk rfl rfl ?_; first
             | refine o_loadwm tabOk rfl rfl rfl (by repeat' (first | exact List.mem_cons_self | apply List.mem_cons_of_mem)) (by first | exact dd_len _ | (simp only [dd_len]) | rfl) (by decide) ?_))
             | (refine z_iscall ?_; first
             | ((refine z_iscallf 54 ?_; refine o_callr rfl Try.func54 rfl rfl rfl (in_c _ _ _ _ (by first | exact cells_rds 0 rfl | exact cells_rds 1 rfl | exact cells_rds 2 rfl)) (by decide) ?_))
             | ((refine z_iscallf 57 ?_; refine o_callr rfl Try.func57 rfl rfl rfl (ralive_c _ _ _ _ (by first | exact cells_rds 0 rfl | exact cells_rds 1 rfl | exact cells_rds 2 rfl)) (by decide) ?_))
             | ((refine z_iscallf 32 ?_; refine o_fn rfl Try.func32 rfl rfl rfl (awake_p) (by decide) ?_))
             | ((refine z_iscallf 25 ?_; refine o_calla Try.func25 rfl rfl rfl (new_c _) (by decide) fun g1 _ => ?_))
             | ((refine z_iscallf 26 ?_; refine o_calla Try.func26 rfl rfl rfl (rnew_c _) (by decide) fun g2 _ => ?_))
             | ((refine z_iscallf 28 ?_; refine o_callr rfl Try.func28 rfl rfl rfl (alive_c _ _ _ _ (cells_rds 0 rfl)) (by decide) ?_))
             | ((refine z_iscallf 29 ?_; refine o_callr rfl Try.func29 rfl rfl rfl (status_c _ _ _ _ (cells_rds 0 rfl)) (by decide) ?_))
             | ((refine z_iscallf 30 ?_; refine o_callr rfl Try.func30 rfl rfl rfl (parent_c _ _ _ _ (cells_rds 0 rfl)) (by decide) ?_))
             | ((refine z_iscallf 31 ?_; refine o_call Try.func31 rfl rfl rfl (wait_c _ _ _) (List.Perm.refl _) (by decide) fun _ _ => ?_)))
             | (refine z_ispick ?_; first
             | (refine o_pick1 rfl (by first | with_reducible rfl | with_reducible assumption | ((with_reducible refine decide_eq_true ?_); first | with_reducible rfl | with_reducible assumption | omega)) rfl (by decide) ?_)
             | (refine o_pick0 rfl (by first | with_reducible rfl | with_reducible assumption | ((with_reducible refine decide_eq_false ?_); first | with_reducible assumption | omega)) rfl (by decide) ?_)
             | (refine o_pick1 rfl (by first | (simp only [Bool.not_eq_true', decide_eq_false_iff_not]; omega) | (with_reducible assumption) | (rw [decide_eq_false] <;> (first | omega | with_reducible rfl)) | (rw [decide_eq_true] <;> (first | omega | with_reducible rfl)) | (simp; done) | (simp; omega)) rfl (by decide) ?_)
             | (refine o_pick0 rfl (by first | (simp only [Bool.not_eq_false', decide_eq_true_eq]; omega) | (with_reducible assumption) | (rw [decide_eq_false] <;> (first | omega | with_reducible rfl)) | (rw [decide_eq_true] <;> (first | omega | with_reducible rfl)) | (simp; done) | (simp; omega)) rfl (by decide) ?_))
             | (refine z_isix ?_; first
             | refine o_index0 tabOk rfl rfl rfl rfl (by omega) (by omega) (by decide) ?_
             | refine o_index1 tabOk rfl rfl rfl rfl (by omega) (by omega) (by decide) ?_
             | refine o_indexsk1 tabOk rfl rfl rfl rfl (by omega) (by omega) (by decide) ?_
             | refine o_indexsk tabOk rfl rfl rfl rfl (by omega) (by omega) (by decide) ?_
             | refine o_indexs1 tabOk (by first | assumption) rfl rfl rfl rfl (by omega) (by omega) (by decide) ?_)
             | (refine z_isbi ?_; first
             | refine o_len tabOk rfl rfl (by decide) ?_
             | refine o_min rfl rfl (by decide) ?_
             | refine o_max rfl rfl (by decide) ?_)
             | refine o_move rfl (by decide) ?_
             | refine o_assign rfl (by decide) ?_
             | refine o_nil rfl (by decide) ?_
             | refine o_extract rfl rfl (by decide) ?_
             | refine o_not rfl (by decide) ?_
             | refine o_field0 tabOk rfl rfl rfl rfl rfl (by decide) ?_
             | refine o_field tabOk rfl rfl rfl rfl rfl (by decide) ?_
             | refine o_conv tabOk rfl rfl rfl (by decide) ?_))
          · rcases Bool.eq_false_or_eq_true (dnB (deed e d) ((k : Int) + 2)) with hb | hb
            · have hs2 := hsp (.inr hb)
              have hs3 : (!inB (deed e d) (paV (deed e d) ((k : Int) + 2))) = false := by rw [hs2]; rfl
              repeat' (first
               | (refine s_is ?_; first
               | (refine s_isagain ?_; first
               | exact c_again (k + 1) (by omega) (by omega) ⟨rfl, rfl, rfl, rfl, rfl, trivial⟩ (fun w h => h))
               | (refine s_isw ?_; first
               | refine c_seq ?_
               | refine c_block ?_
               | refine c_region ?_
               | refine c_mixed mixed (by kernel_rfl) ?_
               | refine c_skip ?_
               | refine c_ret ?_
               | refine c_exit ?_
               | (refine s_iscond ?_; first
               | (refine c_true rfl (by first | with_reducible rfl | with_reducible assumption | ((with_reducible refine decide_eq_true ?_); first | with_reducible rfl | with_reducible assumption | omega)) ?_)
               | (refine c_false rfl (by first | with_reducible rfl | with_reducible assumption | ((with_reducible refine decide_eq_false ?_); first | with_reducible assumption | omega)) ?_)
               | (refine c_true rfl (by first | (simp only [Bool.not_eq_true', decide_eq_false_iff_not]; omega) | (with_reducible assumption) | (rw [decide_eq_false] <;> (first | omega | with_reducible rfl)) | (rw [decide_eq_true] <;> (first | omega | with_reducible rfl)) | (simp; done) | (simp; omega)) ?_)
               | (refine c_false rfl (by first | (simp only [Bool.not_eq_false', decide_eq_true_eq]; omega) | (with_reducible assumption) | (rw [decide_eq_false] <;> (first | omega | with_reducible rfl)) | (rw [decide_eq_true] <;> (first | omega | with_reducible rfl)) | (simp; done) | (simp; omega)) ?_)
               | refine c_cond rfl (fun hc => ?_) (fun hc => ?_)
               | refine c_condb rfl (fun hc => ?_) (fun hc => ?_)))
               | refine x_then ?_
               | refine x_then_ret ?_
               | refine x_then_exit ?_
               | refine x_block _ ?_
               | refine x_block_ret _ ?_
               | refine x_block_exit _ ?_
               | refine x_block_past (by decide) ?_
               | refine z_tailm ?_)
               | (refine z_isg1 ?_; first
               | refine z_skipu (by decide) rfl rfl ?_
               | (refine z_want1 rfl rfl (by first | with_reducible rfl | with_reducible assumption | ((with_reducible refine decide_eq_true ?_); first | with_reducible rfl | with_reducible assumption | omega)) ?_)
               | (refine z_skip1 (by decide) rfl rfl (by first | with_reducible rfl | with_reducible assumption | ((with_reducible refine decide_eq_false ?_); first | with_reducible assumption | omega)) ?_)
               | (refine z_want1 rfl rfl (by first | (simp only [Bool.not_eq_true', decide_eq_false_iff_not]; omega) | (with_reducible assumption) | (rw [decide_eq_false] <;> (first | omega | with_reducible rfl)) | (rw [decide_eq_true] <;> (first | omega | with_reducible rfl)) | (simp; done) | (simp; omega)) ?_)
               | (refine z_skip1 (by decide) rfl rfl (by first | (simp only [Bool.not_eq_false', decide_eq_true_eq]; omega) | (with_reducible assumption) | (rw [decide_eq_false] <;> (first | omega | with_reducible rfl)) | (rw [decide_eq_true] <;> (first | omega | with_reducible rfl)) | (simp; done) | (simp; omega)) ?_)
               | refine z_guard1 (by decide) rfl rfl (fun hc => ?_) (fun hc => ?_)
               | refine z_guardb (by decide) rfl rfl (fun hc => ?_) (fun hc => ?_))
               | (refine z_isg0 ?_; first
               | refine z_skipu (by decide) rfl rfl ?_
               | (refine z_want0 rfl rfl (by first | with_reducible rfl | with_reducible assumption | ((with_reducible refine decide_eq_false ?_); first | with_reducible assumption | omega)) ?_)
               | (refine z_skip0 (by decide) rfl rfl (by first | with_reducible rfl | with_reducible assumption | ((with_reducible refine decide_eq_true ?_); first | with_reducible rfl | with_reducible assumption | omega)) ?_)
               | (refine z_want0 rfl rfl (by first | (simp only [Bool.not_eq_false', decide_eq_true_eq]; omega) | (with_reducible assumption) | (rw [decide_eq_false] <;> (first | omega | with_reducible rfl)) | (rw [decide_eq_true] <;> (first | omega | with_reducible rfl)) | (simp; done) | (simp; omega)) ?_)
               | (refine z_skip0 (by decide) rfl rfl (by first | (simp only [Bool.not_eq_true', decide_eq_false_iff_not]; omega) | (with_reducible assumption) | (rw [decide_eq_false] <;> (first | omega | with_reducible rfl)) | (rw [decide_eq_true] <;> (first | omega | with_reducible rfl)) | (simp; done) | (simp; omega)) ?_)
               | refine z_guard0 (by decide) rfl rfl (fun hc => ?_) (fun hc => ?_)
               | refine z_guardb (by decide) rfl rfl (fun hc => ?_) (fun hc => ?_))
               | (refine z_isnil ?_; first
               | refine z_list ?_
               | refine z_mixed ?_
               | refine z_mono0 ?_
               | refine z_mono1 (by decide) fun g => ?_
               | refine z_mono2 (by decide) (by decide) fun g g' => ?_
               | refine z_mixedx ?_
               | refine z_quiet ?_)
               | (refine z_isop ?_; first
               | refine o_indexm tabOk rfl rfl rfl rfl (by omega) (by omega) (by decide) ?_
               | refine o_build0 (t := 102) (v := .agg Pe.zero.cs.toArray) (fun _ => by kernel_rfl) (by decide) ?_
               | refine o_build0 (t := 66) (v := .agg Pe.zero.cs.toArray) (fun _ => by kernel_rfl) (by decide) ?_
               | refine o_alloca (e := 102) (vs := Pe.zero.cs) rfl (by kernel_rfl) (by decide) fun g => ?_
               | refine o_alloca (e := 66) (vs := Pe.zero.cs) rfl (by kernel_rfl) (by decide) fun g => ?_
               | refine o_boxa rfl rfl (by decide) fun g => ?_
               | (refine z_isbin ?_; first
               | (refine z_isb .add ?_; first
               | refine o_add rfl rfl (by omega) (by omega) (by decide) ?_
               | refine o_addw rfl rfl (by decide) ?_)
               | (refine z_isb .eql ?_; first
               | refine o_eq rfl rfl (by decide) ?_
               | refine o_beq tabOk rfl rfl rfl (by decide) ?_
               | refine o_peq tabOk rfl rfl (by decide) ?_)
               | (refine z_isb .neq ?_; first
               | refine o_ne rfl rfl (by decide) ?_
               | refine o_bne tabOk rfl rfl rfl (by decide) ?_
               | refine o_pne tabOk rfl rfl (by decide) ?_)
               | (refine z_isb .lss ?_; first
               | refine o_lt rfl rfl (by decide) ?_)
               | (refine z_isb .leq ?_; first
               | refine o_le rfl rfl (by decide) ?_))
               | (refine z_isload ?_; first
               | refine o_loadp tabOk rfl rfl rfl 0 rfl (pe_len _) (tcs_el _ (by omega)) (by decide) ?_
               | refine o_loadp tabOk rfl rfl rfl 1 rfl (pe_len _) (tcs_el _ (by omega)) (by decide) ?_
               | (refine z_ld1 tabOk rfl rfl ?_; first
               | refine o_loadm tabOk rfl rfl rfl (by repeat' (first | exact List.mem_cons_self | apply List.mem_cons_of_mem)) (by first | exact tcs_s _ (by omega) | exact tcs_p _ (by omega) | exact tcs_u _ (by omega) | exact dd_k _ | exact dd_n _ | exact dd_u _ | rfl) (by decide) ?_
               | refine o_loads tabOk (by first | assumption | exact Rds.cons _ (by assumption) | exact Rds.cons _ (Rds.cons _ (by assumption)) | exact own_rds 0 rfl | exact own_rds 1 rfl | exact own_rds 2 rfl) rfl rfl rfl (by first | exact tcs_s _ (by omega) | exact tcs_p _ (by omega) | exact tcs_u _ (by omega) | exact dd_k _ | exact dd_n _ | exact dd_u _ | rfl) (by decide) ?_)
               | (refine z_ldw tabOk rfl rfl ?_; first
               | refine o_loadwm tabOk rfl rfl rfl (by repeat' (first | exact List.mem_cons_self | apply List.mem_cons_of_mem)) (by first | exact dd_len _ | (simp only [dd_len]) | rfl) (by decide) ?_))
               | (refine z_iscall ?_; first
               | ((refine z_iscallf 54 ?_; refine o_callr rfl Try.func54 rfl rfl rfl (in_c _ _ _ _ (by first | exact cells_rds 0 rfl | exact cells_rds 1 rfl | exact cells_rds 2 rfl)) (by decide) ?_))
               | ((refine z_iscallf 57 ?_; refine o_callr rfl Try.func57 rfl rfl rfl (ralive_c _ _ _ _ (by first | exact cells_rds 0 rfl | exact cells_rds 1 rfl | exact cells_rds 2 rfl)) (by decide) ?_))
               | ((refine z_iscallf 32 ?_; refine o_fn rfl Try.func32 rfl rfl rfl (awake_p) (by decide) ?_))
               | ((refine z_iscallf 25 ?_; refine o_calla Try.func25 rfl rfl rfl (new_c _) (by decide) fun g1 _ => ?_))
               | ((refine z_iscallf 26 ?_; refine o_calla Try.func26 rfl rfl rfl (rnew_c _) (by decide) fun g2 _ => ?_))
               | ((refine z_iscallf 28 ?_; refine o_callr rfl Try.func28 rfl rfl rfl (alive_c _ _ _ _ (cells_rds 0 rfl)) (by decide) ?_))
               | ((refine z_iscallf 29 ?_; refine o_callr rfl Try.func29 rfl rfl rfl (status_c _ _ _ _ (cells_rds 0 rfl)) (by decide) ?_))
               | ((refine z_iscallf 30 ?_; refine o_callr rfl Try.func30 rfl rfl rfl (parent_c _ _ _ _ (cells_rds 0 rfl)) (by decide) ?_))
               | ((refine z_iscallf 31 ?_; refine o_call Try.func31 rfl rfl rfl (wait_c _ _ _) (List.Perm.refl _) (by decide) fun _ _ => ?_)))
               | (refine z_ispick ?_; first
               | (refine o_pick1 rfl (by first | with_reducible rfl | with_reducible assumption | ((with_reducible refine decide_eq_true ?_); first | with_reducible rfl | with_reducible assumption | omega)) rfl (by decide) ?_)
               | (refine o_pick0 rfl (by first | with_reducible rfl | with_reducible assumption | ((with_reducible refine decide_eq_false ?_); first | with_reducible assumption | omega)) rfl (by decide) ?_)
               | (refine o_pick1 rfl (by first | (simp only [Bool.not_eq_true', decide_eq_false_iff_not]; omega) | (with_reducible assumption) | (rw [decide_eq_false] <;> (first | omega | with_reducible rfl)) | (rw [decide_eq_true] <;> (first | omega | with_reducible rfl)) | (simp; done) | (simp; omega)) rfl (by decide) ?_)
               | (refine o_pick0 rfl (by first | (simp only [Bool.not_eq_false', decide_eq_true_eq]; omega) | (with_reducible assumption) | (rw [decide_eq_false] <;> (first | omega | with_reducible rfl)) | (rw [decide_eq_true] <;> (first | omega | with_reducible rfl)) | (simp; done) | (simp; omega)) rfl (by decide) ?_))
               | (refine z_isix ?_; first
               | refine o_index0 tabOk rfl rfl rfl rfl (by omega) (by omega) (by decide) ?_
               | refine o_index1 tabOk rfl rfl rfl rfl (by omega) (by omega) (by decide) ?_
               | refine o_indexsk1 tabOk rfl rfl rfl rfl (by omega) (by omega) (by decide) ?_
               | refine o_indexsk tabOk rfl rfl rfl rfl (by omega) (by omega) (by decide) ?_
               | refine o_indexs1 tabOk (by first | assumption) rfl rfl rfl rfl (by omega) (by omega) (by decide) ?_)
               | (refine z_isbi ?_; first
               | refine o_len tabOk rfl rfl (by decide) ?_
               | refine o_min rfl rfl (by decide) ?_
               | refine o_max rfl rfl (by decide) ?_)
               | refine o_move rfl (by decide) ?_
               | refine o_assign rfl (by decide) ?_
               | refine o_nil rfl (by decide) ?_
               | refine o_extract rfl rfl (by decide) ?_
               | refine o_not rfl (by decide) ?_
               | refine o_field0 tabOk rfl rfl rfl rfl rfl (by decide) ?_
               | refine o_field tabOk rfl rfl rfl rfl rfl (by decide) ?_
               | refine o_conv tabOk rfl rfl rfl (by decide) ?_))
            · skip
              repeat' (first
               | (refine s_is ?_; first
               | (refine s_isagain ?_; first
               | exact c_again (k + 1) (by omega) (by omega) ⟨rfl, rfl, rfl, rfl, rfl, trivial⟩ (fun w h => h))
               | (refine s_isw ?_; first
               | refine c_seq ?_
               | refine c_block ?_
               | refine c_region ?_
               | refine c_mixed mixed (by kernel_rfl) ?_
               | refine c_skip ?_
               | refine c_ret ?_
               | refine c_exit ?_
               | (refine s_iscond ?_; first
               | (refine c_true rfl (by first | with_reducible rfl | with_reducible assumption | ((with_reducible refine decide_eq_true ?_); first | with_reducible rfl | with_reducible assumption | omega)) ?_)
               | (refine c_false rfl (by first | with_reducible rfl | with_reducible assumption | ((with_reducible refine decide_eq_false ?_); first | with_reducible assumption | omega)) ?_)
               | (refine c_true rfl (by first | (simp only [Bool.not_eq_true', decide_eq_false_iff_not]; omega) | (with_reducible assumption) | (rw [decide_eq_false] <;> (first | omega | with_reducible rfl)) | (rw [decide_eq_true] <;> (first | omega | with_reducible rfl)) | (simp; done) | (simp; omega)) ?_)
               | (refine c_false rfl (by first | (simp only [Bool.not_eq_false', decide_eq_true_eq]; omega) | (with_reducible assumption) | (rw [decide_eq_false] <;> (first | omega | with_reducible rfl)) | (rw [decide_eq_true] <;> (first | omega | with_reducible rfl)) | (simp; done) | (simp; omega)) ?_)
               | refine c_cond rfl (fun hc => ?_) (fun hc => ?_)
               | refine c_condb rfl (fun hc => ?_) (fun hc => ?_)))
               | refine x_then ?_
               | refine x_then_ret ?_
               | refine x_then_exit ?_
               | refine x_block _ ?_
               | refine x_block_ret _ ?_
               | refine x_block_exit _ ?_
               | refine x_block_past (by decide) ?_
               | refine z_tailm ?_)
               | (refine z_isg1 ?_; first
               | refine z_skipu (by decide) rfl rfl ?_
               | (refine z_want1 rfl rfl (by first | with_reducible rfl | with_reducible assumption | ((with_reducible refine decide_eq_true ?_); first | with_reducible rfl | with_reducible assumption | omega)) ?_)
               | (refine z_skip1 (by decide) rfl rfl (by first | with_reducible rfl | with_reducible assumption | ((with_reducible refine decide_eq_false ?_); first | with_reducible assumption | omega)) ?_)
               | (refine z_want1 rfl rfl (by first | (simp only [Bool.not_eq_true', decide_eq_false_iff_not]; omega) | (with_reducible assumption) | (rw [decide_eq_false] <;> (first | omega | with_reducible rfl)) | (rw [decide_eq_true] <;> (first | omega | with_reducible rfl)) | (simp; done) | (simp; omega)) ?_)
               | (refine z_skip1 (by decide) rfl rfl (by first | (simp only [Bool.not_eq_false', decide_eq_true_eq]; omega) | (with_reducible assumption) | (rw [decide_eq_false] <;> (first | omega | with_reducible rfl)) | (rw [decide_eq_true] <;> (first | omega | with_reducible rfl)) | (simp; done) | (simp; omega)) ?_)
               | refine z_guard1 (by decide) rfl rfl (fun hc => ?_) (fun hc => ?_)
               | refine z_guardb (by decide) rfl rfl (fun hc => ?_) (fun hc => ?_))
               | (refine z_isg0 ?_; first
               | refine z_skipu (by decide) rfl rfl ?_
               | (refine z_want0 rfl rfl (by first | with_reducible rfl | with_reducible assumption | ((with_reducible refine decide_eq_false ?_); first | with_reducible assumption | omega)) ?_)
               | (refine z_skip0 (by decide) rfl rfl (by first | with_reducible rfl | with_reducible assumption | ((with_reducible refine decide_eq_true ?_); first | with_reducible rfl | with_reducible assumption | omega)) ?_)
               | (refine z_want0 rfl rfl (by first | (simp only [Bool.not_eq_false', decide_eq_true_eq]; omega) | (with_reducible assumption) | (rw [decide_eq_false] <;> (first | omega | with_reducible rfl)) | (rw [decide_eq_true] <;> (first | omega | with_reducible rfl)) | (simp; done) | (simp; omega)) ?_)
               | (refine z_skip0 (by decide) rfl rfl (by first | (simp only [Bool.not_eq_true', decide_eq_false_iff_not]; omega) | (with_reducible assumption) | (rw [decide_eq_false] <;> (first | omega | with_reducible rfl)) | (rw [decide_eq_true] <;> (first | omega | with_reducible rfl)) | (simp; done) | (simp; omega)) ?_)
               | refine z_guard0 (by decide) rfl rfl (fun hc => ?_) (fun hc => ?_)
               | refine z_guardb (by decide) rfl rfl (fun hc => ?_) (fun hc => ?_))
               | (refine z_isnil ?_; first
               | refine z_list ?_
               | refine z_mixed ?_
               | refine z_mono0 ?_
               | refine z_mono1 (by decide) fun g => ?_
               | refine z_mono2 (by decide) (by decide) fun g g' => ?_
               | refine z_mixedx ?_
               | refine z_quiet ?_)
               | (refine z_isop ?_; first
               | refine o_indexm tabOk rfl rfl rfl rfl (by omega) (by omega) (by decide) ?_
               | refine o_build0 (t := 102) (v := .agg Pe.zero.cs.toArray) (fun _ => by kernel_rfl) (by decide) ?_
               | refine o_build0 (t := 66) (v := .agg Pe.zero.cs.toArray) (fun _ => by kernel_rfl) (by decide) ?_
               | refine o_alloca (e := 102) (vs := Pe.zero.cs) rfl (by kernel_rfl) (by decide) fun g => ?_
               | refine o_alloca (e := 66) (vs := Pe.zero.cs) rfl (by kernel_rfl) (by decide) fun g => ?_
               | refine o_boxa rfl rfl (by decide) fun g => ?_
               | (refine z_isbin ?_; first
               | (refine z_isb .add ?_; first
               | refine o_add rfl rfl (by omega) (by omega) (by decide) ?_
               | refine o_addw rfl rfl (by decide) ?_)
               | (refine z_isb .eql ?_; first
               | refine o_eq rfl rfl (by decide) ?_
               | refine o_beq tabOk rfl rfl rfl (by decide) ?_
               | refine o_peq tabOk rfl rfl (by decide) ?_)
               | (refine z_isb .neq ?_; first
               | refine o_ne rfl rfl (by decide) ?_
               | refine o_bne tabOk rfl rfl rfl (by decide) ?_
               | refine o_pne tabOk rfl rfl (by decide) ?_)
               | (refine z_isb .lss ?_; first
               | refine o_lt rfl rfl (by decide) ?_)
               | (refine z_isb .leq ?_; first
               | refine o_le rfl rfl (by decide) ?_))
               | (refine z_isload ?_; first
               | refine o_loadp tabOk rfl rfl rfl 0 rfl (pe_len _) (tcs_el _ (by omega)) (by decide) ?_
               | refine o_loadp tabOk rfl rfl rfl 1 rfl (pe_len _) (tcs_el _ (by omega)) (by decide) ?_
               | (refine z_ld1 tabOk rfl rfl ?_; first
               | refine o_loadm tabOk rfl rfl rfl (by repeat' (first | exact List.mem_cons_self | apply List.mem_cons_of_mem)) (by first | exact tcs_s _ (by omega) | exact tcs_p _ (by omega) | exact tcs_u _ (by omega) | exact dd_k _ | exact dd_n _ | exact dd_u _ | rfl) (by decide) ?_
               | refine o_loads tabOk (by first | assumption | exact Rds.cons _ (by assumption) | exact Rds.cons _ (Rds.cons _ (by assumption)) | exact own_rds 0 rfl | exact own_rds 1 rfl | exact own_rds 2 rfl) rfl rfl rfl (by first | exact tcs_s _ (by omega) | exact tcs_p _ (by omega) | exact tcs_u _ (by omega) | exact dd_k _ | exact dd_n _ | exact dd_u _ | rfl) (by decide) ?_)
               | (refine z_ldw tabOk rfl rfl ?_; first
               | refine o_loadwm tabOk rfl rfl rfl (by repeat' (first | exact List.mem_cons_self | apply List.mem_cons_of_mem)) (by first | exact dd_len _ | (simp only [dd_len]) | rfl) (by decide) ?_))
               | (refine z_iscall ?_; first
               | ((refine z_iscallf 54 ?_; refine o_callr rfl Try.func54 rfl rfl rfl (in_c _ _ _ _ (by first | exact cells_rds 0 rfl | exact cells_rds 1 rfl | exact cells_rds 2 rfl)) (by decide) ?_))
               | ((refine z_iscallf 57 ?_; refine o_callr rfl Try.func57 rfl rfl rfl (ralive_c _ _ _ _ (by first | exact cells_rds 0 rfl | exact cells_rds 1 rfl | exact cells_rds 2 rfl)) (by decide) ?_))
               | ((refine z_iscallf 32 ?_; refine o_fn rfl Try.func32 rfl rfl rfl (awake_p) (by decide) ?_))
               | ((refine z_iscallf 25 ?_; refine o_calla Try.func25 rfl rfl rfl (new_c _) (by decide) fun g1 _ => ?_))
               | ((refine z_iscallf 26 ?_; refine o_calla Try.func26 rfl rfl rfl (rnew_c _) (by decide) fun g2 _ => ?_))
               | ((refine z_iscallf 28 ?_; refine o_callr rfl Try.func28 rfl rfl rfl (alive_c _ _ _ _ (cells_rds 0 rfl)) (by decide) ?_))
               | ((refine z_iscallf 29 ?_; refine o_callr rfl Try.func29 rfl rfl rfl (status_c _ _ _ _ (cells_rds 0 rfl)) (by decide) ?_))
               | ((refine z_iscallf 30 ?_; refine o_callr rfl Try.func30 rfl rfl rfl (parent_c _ _ _ _ (cells_rds 0 rfl)) (by decide) ?_))
               | ((refine z_iscallf 31 ?_; refine o_call Try.func31 rfl rfl rfl (wait_c _ _ _) (List.Perm.refl _) (by decide) fun _ _ => ?_)))
               | (refine z_ispick ?_; first
               | (refine o_pick1 rfl (by first | with_reducible rfl | with_reducible assumption | ((with_reducible refine decide_eq_true ?_); first | with_reducible rfl | with_reducible assumption | omega)) rfl (by decide) ?_)
               | (refine o_pick0 rfl (by first | with_reducible rfl | with_reducible assumption | ((with_reducible refine decide_eq_false ?_); first | with_reducible assumption | omega)) rfl (by decide) ?_)
               | (refine o_pick1 rfl (by first | (simp only [Bool.not_eq_true', decide_eq_false_iff_not]; omega) | (with_reducible assumption) | (rw [decide_eq_false] <;> (first | omega | with_reducible rfl)) | (rw [decide_eq_true] <;> (first | omega | with_reducible rfl)) | (simp; done) | (simp; omega)) rfl (by decide) ?_)
               | (refine o_pick0 rfl (by first | (simp only [Bool.not_eq_false', decide_eq_true_eq]; omega) | (with_reducible assumption) | (rw [decide_eq_false] <;> (first | omega | with_reducible rfl)) | (rw [decide_eq_true] <;> (first | omega | with_reducible rfl)) | (simp; done) | (simp; omega)) rfl (by decide) ?_))
               | (refine z_isix ?_; first
               | refine o_index0 tabOk rfl rfl rfl rfl (by omega) (by omega) (by decide) ?_
               | refine o_index1 tabOk rfl rfl rfl rfl (by omega) (by omega) (by decide) ?_
               | refine o_indexsk1 tabOk rfl rfl rfl rfl (by omega) (by omega) (by decide) ?_
               | refine o_indexsk tabOk rfl rfl rfl rfl (by omega) (by omega) (by decide) ?_
               | refine o_indexs1 tabOk (by first | assumption) rfl rfl rfl rfl (by omega) (by omega) (by decide) ?_)
               | (refine z_isbi ?_; first
               | refine o_len tabOk rfl rfl (by decide) ?_
               | refine o_min rfl rfl (by decide) ?_
               | refine o_max rfl rfl (by decide) ?_)
               | refine o_move rfl (by decide) ?_
               | refine o_assign rfl (by decide) ?_
               | refine o_nil rfl (by decide) ?_
               | refine o_extract rfl rfl (by decide) ?_
               | refine o_not rfl (by decide) ?_
               | refine o_field0 tabOk rfl rfl rfl rfl rfl (by decide) ?_
               | refine o_field tabOk rfl rfl rfl rfl rfl (by decide) ?_
               | refine o_conv tabOk rfl rfl rfl (by decide) ?_))
        · obtain rfl : k = 6 := by omega
          repeat' (first
           | (refine s_is ?_; first
           | (refine s_isagain ?_; first
           | (exact c_again (i + 1, deed e d) ⟨by dsimp only; omega, hok', hz, hpa2⟩ (by dsimp only; omega) ⟨rfl, rfl, rfl, rfl, trivial⟩ (fun w h => h)))
           | (refine s_isw ?_; first
           | refine c_seq ?_
           | refine c_block ?_
           | refine c_region ?_
           | refine c_mixed mixed (by kernel_rfl) ?_
           | refine c_skip ?_
           | refine c_ret ?_
           | refine c_exit ?_
           | (refine s_iscond ?_; first
           | (refine c_true rfl (by first | with_reducible rfl | with_reducible assumption | ((with_reducible refine decide_eq_true ?_); first | with_reducible rfl | with_reducible assumption | omega)) ?_)
           | (refine c_false rfl (by first | with_reducible rfl | with_reducible assumption | ((with_reducible refine decide_eq_false ?_); first | with_reducible assumption | omega)) ?_)
           | (refine c_true rfl (by first | (simp only [Bool.not_eq_true', decide_eq_false_iff_not]; omega) | (with_reducible assumption) | (rw [decide_eq_false] <;> (first | omega | with_reducible rfl)) | (rw [decide_eq_true] <;> (first | omega | with_reducible rfl)) | (simp; done) | (simp; omega)) ?_)
           | (refine c_false rfl (by first | (simp only [Bool.not_eq_false', decide_eq_true_eq]; omega) | (with_reducible assumption) | (rw [decide_eq_false] <;> (first | omega | with_reducible rfl)) | (rw [decide_eq_true] <;> (first | omega | with_reducible rfl)) | (simp; done) | (simp; omega)) ?_)
           | refine c_cond rfl (fun hc => ?_) (fun hc => ?_)
           | refine c_condb rfl (fun hc => ?_) (fun hc => ?_)))
           | refine x_then ?_
           | refine x_then_ret ?_
           | refine x_then_exit ?_
           | refine x_block _ ?_
           | refine x_block_ret _ ?_
           | refine x_block_exit _ ?_
           | refine x_block_past (by decide) ?_
           | refine z_tailm ?_)
           | (refine z_isg1 ?_; first
           | refine z_skipu (by decide) rfl rfl ?_
           | (refine z_want1 rfl rfl (by first | with_reducible rfl | with_reducible assumption | ((with_reducible refine decide_eq_true ?_); first | with_reducible rfl | with_reducible assumption | omega)) ?_)
           | (refine z_skip1 (by decide) rfl rfl (by first | with_reducible rfl | with_reducible assumption | ((with_reducible refine decide_eq_false ?_); first | with_reducible assumption | omega)) ?_)
           | (refine z_want1 rfl rfl (by first | (simp only [Bool.not_eq_true', decide_eq_false_iff_not]; omega) | (with_reducible assumption) | (rw [decide_eq_false] <;> (first | omega | with_reducible rfl)) | (rw [decide_eq_true] <;> (first | omega | with_reducible rfl)) | (simp; done) | (simp; omega)) ?_)
           | (refine z_skip1 (by decide) rfl rfl (by first | (simp only [Bool.not_eq_false', decide_eq_true_eq]; omega) | (with_reducible assumption) | (rw [decide_eq_false] <;> (first | omega | with_reducible rfl)) | (rw [decide_eq_true] <;> (first | omega | with_reducible rfl)) | (simp; done) | (simp; omega)) ?_)
           | refine z_guard1 (by decide) rfl rfl (fun hc => ?_) (fun hc => ?_)
           | refine z_guardb (by decide) rfl rfl (fun hc => ?_) (fun hc => ?_))
           | (refine z_isg0 ?_; first
           | refine z_skipu (by decide) rfl rfl ?_
           | (refine z_want0 rfl rfl (by first | with_reducible rfl | with_reducible assumption | ((with_reducible refine decide_eq_false ?_); first | with_reducible assumption | omega)) ?_)
           | (refine z_skip0 (by decide) rfl rfl (by first | with_reducible rfl | with_reducible assumption | ((with_reducible refine decide_eq_true ?_); first | with_reducible rfl | with_reducible assumption | omega)) ?_)
           | (refine z_want0 rfl rfl (by first | (simp only [Bool.not_eq_false', decide_eq_true_eq]; omega) | (with_reducible assumption) | (rw [decide_eq_false] <;> (first | omega | with_reducible rfl)) | (rw [decide_eq_true] <;> (first | omega | with_reducible rfl)) | (simp; done) | (simp; omega)) ?_)
           | (refine z_skip0 (by decide) rfl rfl (by first | (simp only [Bool.not_eq_true', decide_eq_false_iff_not]; omega) | (with_reducible assumption) | (rw [decide_eq_false] <;> (first | omega | with_reducible rfl)) | (rw [decide_eq_true] <;> (first | omega | with_reducible rfl)) | (simp; done) | (simp; omega)) ?_)
           | refine z_guard0 (by decide) rfl rfl (fun hc => ?_) (fun hc => ?_)
           | refine z_guardb (by decide) rfl rfl (fun hc => ?_) (fun hc => ?_))
           | (refine z_isnil ?_; first
           | refine z_list ?_
           | refine z_mixed ?_
           | refine z_mono0 ?_
           | refine z_mono1 (by decide) fun g => ?_
           | refine z_mono2 (by decide) (by decide) fun g g' => ?_
           | refine z_mixedx ?_
           | refine z_quiet ?_)
           | (refine z_isop ?_; first
           | refine o_indexm tabOk rfl rfl rfl rfl (by omega) (by omega) (by decide) ?_
           | refine o_build0 (t := 102) (v := .agg Pe.zero.cs.toArray) (fun _ => by kernel_rfl) (by decide) ?_
           | refine o_build0 (t := 66) (v := .agg Pe.zero.cs.toArray) (fun _ => by kernel_rfl) (by decide) ?_
           | refine o_alloca (e := 102) (vs := Pe.zero.cs) rfl (by kernel_rfl) (by decide) fun g => ?_
           | refine o_alloca (e := 66) (vs := Pe.zero.cs) rfl (by kernel_rfl) (by decide) fun g => ?_
           | refine o_boxa rfl rfl (by decide) fun g => ?_
           | (refine z_isbin ?_; first
           | (refine z_isb .add ?_; first
           | refine o_add rfl rfl (by omega) (by omega) (by decide) ?_
           | refine o_addw rfl rfl (by decide) ?_)
           | (refine z_isb .eql ?_; first
           | refine o_eq rfl rfl (by decide) ?_
           | refine o_beq tabOk rfl rfl rfl (by decide) ?_
           | refine o_peq tabOk rfl rfl (by decide) ?_)
           | (refine z_isb .neq ?_; first
           | refine o_ne rfl rfl (by decide) ?_
           | refine o_bne tabOk rfl rfl rfl (by decide) ?_
           | refine o_pne tabOk rfl rfl (by decide) ?_)
           | (refine z_isb .lss ?_; first
           | refine o_lt rfl rfl (by decide) ?_)
           | (refine z_isb .leq ?_; first
           | refine o_le rfl rfl (by decide) ?_))
           | (refine z_isload ?_; first
           | refine o_loadp tabOk rfl rfl rfl 0 rfl (pe_len _) (tcs_el _ (by omega)) (by decide) ?_
           | refine o_loadp tabOk rfl rfl rfl 1 rfl (pe_len _) (tcs_el _ (by omega)) (by decide) ?_
           | (refine z_ld1 tabOk rfl rfl ?_; first
           | refine o_loadm tabOk rfl rfl rfl (by repeat' (first | exact List.mem_cons_self | apply List.mem_cons_of_mem)) (by first | exact tcs_s _ (by omega) | exact tcs_p _ (by omega) | exact tcs_u _ (by omega) | exact dd_k _ | exact dd_n _ | exact dd_u _ | rfl) (by decide) ?_
           | refine o_loads tabOk (by first | assumption | exact Rds.cons _ (by assumption) | exact Rds.cons _ (Rds.cons _ (by assumption)) | exact own_rds 0 rfl | exact own_rds 1 rfl | exact own_rds 2 rfl) rfl rfl rfl (by first | exact tcs_s _ (by omega) | exact tcs_p _ (by omega) | exact tcs_u _ (by omega) | exact dd_k _ | exact dd_n _ | exact dd_u _ | rfl) (by decide) ?_)
           | (refine z_ldw tabOk rfl rfl ?_; first
           | refine o_loadwm tabOk rfl rfl rfl (by repeat' (first | exact List.mem_cons_self | apply List.mem_cons_of_mem)) (by first | exact dd_len _ | (simp only [dd_len]) | rfl) (by decide) ?_))
           | (refine z_iscall ?_; first
           | ((refine z_iscallf 54 ?_; refine o_callr rfl Try.func54 rfl rfl rfl (in_c _ _ _ _ (by first | exact cells_rds 0 rfl | exact cells_rds 1 rfl | exact cells_rds 2 rfl)) (by decide) ?_))
           | ((refine z_iscallf 57 ?_; refine o_callr rfl Try.func57 rfl rfl rfl (ralive_c _ _ _ _ (by first | exact cells_rds 0 rfl | exact cells_rds 1 rfl | exact cells_rds 2 rfl)) (by decide) ?_))
           | ((refine z_iscallf 32 ?_; refine o_fn rfl Try.func32 rfl rfl rfl (awake_p) (by decide) ?_))
           | ((refine z_iscallf 25 ?_; refine o_calla Try.func25 rfl rfl rfl (new_c _) (by decide) fun g1 _ => ?_))
           | ((refine z_iscallf 26 ?_; refine o_calla Try.func26 rfl rfl rfl (rnew_c _) (by decide) fun g2 _ => ?_))
           | ((refine z_iscallf 28 ?_; refine o_callr rfl Try.func28 rfl rfl rfl (alive_c _ _ _ _ (cells_rds 0 rfl)) (by decide) ?_))
           | ((refine z_iscallf 29 ?_; refine o_callr rfl Try.func29 rfl rfl rfl (status_c _ _ _ _ (cells_rds 0 rfl)) (by decide) ?_))
           | ((refine z_iscallf 30 ?_; refine o_callr rfl Try.func30 rfl rfl rfl (parent_c _ _ _ _ (cells_rds 0 rfl)) (by decide) ?_))
           | ((refine z_iscallf 31 ?_; refine o_call Try.func31 rfl rfl rfl (wait_c _ _ _) (List.Perm.refl _) (by decide) fun _ _ => ?_)))
           | (refine z_ispick ?_; first
           | (refine o_pick1 rfl (by first | with_reducible rfl | with_reducible assumption | ((with_reducible refine decide_eq_true ?_); first | with_reducible rfl | with_reducible assumption | omega)) rfl (by decide) ?_)
           | (refine o_pick0 rfl (by first | with_reducible rfl | with_reducible assumption | ((with_reducible refine decide_eq_false ?_); first | with_reducible assumption | omega)) rfl (by decide) ?_)
           | (refine o_pick1 rfl (by first | (simp only [Bool.not_eq_true', decide_eq_false_iff_not]; omega) | (with_reducible assumption) | (rw [decide_eq_false] <;> (first | omega | with_reducible rfl)) | (rw [decide_eq_true] <;> (first | omega | with_reducible rfl)) | (simp; done) | (simp; omega)) rfl (by decide) ?_)
           | (refine o_pick0 rfl (by first | (simp only [Bool.not_eq_false', decide_eq_true_eq]; omega) | (with_reducible assumption) | (rw [decide_eq_false] <;> (first | omega | with_reducible rfl)) | (rw [decide_eq_true] <;> (first | omega | with_reducible rfl)) | (simp; done) | (simp; omega)) rfl (by decide) ?_))
           | (refine z_isix ?_; first
           | refine o_index0 tabOk rfl rfl rfl rfl (by omega) (by omega) (by decide) ?_
           | refine o_index1 tabOk rfl rfl rfl rfl (by omega) (by omega) (by decide) ?_
           | refine o_indexsk1 tabOk rfl rfl rfl rfl (by omega) (by omega) (by decide) ?_
           | refine o_indexsk tabOk rfl rfl rfl rfl (by omega) (by omega) (by decide) ?_
           | refine o_indexs1 tabOk (by first | assumption) rfl rfl rfl rfl (by omega) (by omega) (by decide) ?_)
           | (refine z_isbi ?_; first
           | refine o_len tabOk rfl rfl (by decide) ?_
           | refine o_min rfl rfl (by decide) ?_
           | refine o_max rfl rfl (by decide) ?_)
           | refine o_move rfl (by decide) ?_
           | refine o_assign rfl (by decide) ?_
           | refine o_nil rfl (by decide) ?_
           | refine o_extract rfl rfl (by decide) ?_
           | refine o_not rfl (by decide) ?_
           | refine o_field0 tabOk rfl rfl rfl rfl rfl (by decide) ?_
           | refine o_field tabOk rfl rfl rfl rfl rfl (by decide) ?_
           | refine o_conv tabOk rfl rfl rfl (by decide) ?_))
      · have hz1 : (!inB (deed e d) 1) = true := by rw [hz]; rfl
        repeat' (first
         | (refine s_is ?_; first
         | (refine s_isw ?_; first
         | (refine s_isloop ?_; first
         | ((refine c_loop (X := Nat × Tb) (fun y => y.1 + cntF y.2 7 ≤ 7) (fun y => [(3, .pointer (some ⟨g1, 0, none⟩)), (9, .int .i64 y.1)]) (fun y => [cells g1 105 (tcs y.2), cells g2 69 (tcs (deed e d)), old W]) (fun y => 8 - y.1) (0, (deed e d)) (by dsimp only; have := cntF_le (deed e d) 7; omega) ⟨rfl, rfl, trivial⟩ (fun w h => h) (fun y hy => ?_); obtain ⟨n, f⟩ := y; dsimp only at hy ⊢; refine hold ?_)))
         | refine c_seq ?_
         | refine c_block ?_
         | refine c_region ?_
         | refine c_mixed mixed (by kernel_rfl) ?_
         | refine c_skip ?_
         | refine c_ret ?_
         | refine c_exit ?_
         | (refine s_iscond ?_; first
         | (refine c_true rfl (by first | with_reducible rfl | with_reducible assumption | ((with_reducible refine decide_eq_true ?_); first | with_reducible rfl | with_reducible assumption | omega)) ?_)
         | (refine c_false rfl (by first | with_reducible rfl | with_reducible assumption | ((with_reducible refine decide_eq_false ?_); first | with_reducible assumption | omega)) ?_)
         | (refine c_true rfl (by first | (simp only [Bool.not_eq_true', decide_eq_false_iff_not]; omega) | (with_reducible assumption) | (rw [decide_eq_false] <;> (first | omega | with_reducible rfl)) | (rw [decide_eq_true] <;> (first | omega | with_reducible rfl)) | (simp; done) | (simp; omega)) ?_)
         | (refine c_false rfl (by first | (simp only [Bool.not_eq_false', decide_eq_true_eq]; omega) | (with_reducible assumption) | (rw [decide_eq_false] <;> (first | omega | with_reducible rfl)) | (rw [decide_eq_true] <;> (first | omega | with_reducible rfl)) | (simp; done) | (simp; omega)) ?_)
         | refine c_cond rfl (fun hc => ?_) (fun hc => ?_)
         | refine c_condb rfl (fun hc => ?_) (fun hc => ?_)))
         | refine x_then ?_
         | refine x_then_ret ?_
         | refine x_then_exit ?_
         | refine x_block _ ?_
         | refine x_block_ret _ ?_
         | refine x_block_exit _ ?_
         | refine x_block_past (by decide) ?_
         | refine z_tailm ?_)
         | (refine z_isg1 ?_; first
         | refine z_skipu (by decide) rfl rfl ?_
         | (refine z_want1 rfl rfl (by first | with_reducible rfl | with_reducible assumption | ((with_reducible refine decide_eq_true ?_); first | with_reducible rfl | with_reducible assumption | omega)) ?_)
         | (refine z_skip1 (by decide) rfl rfl (by first | with_reducible rfl | with_reducible assumption | ((with_reducible refine decide_eq_false ?_); first | with_reducible assumption | omega)) ?_)
         | (refine z_want1 rfl rfl (by first | (simp only [Bool.not_eq_true', decide_eq_false_iff_not]; omega) | (with_reducible assumption) | (rw [decide_eq_false] <;> (first | omega | with_reducible rfl)) | (rw [decide_eq_true] <;> (first | omega | with_reducible rfl)) | (simp; done) | (simp; omega)) ?_)
         | (refine z_skip1 (by decide) rfl rfl (by first | (simp only [Bool.not_eq_false', decide_eq_true_eq]; omega) | (with_reducible assumption) | (rw [decide_eq_false] <;> (first | omega | with_reducible rfl)) | (rw [decide_eq_true] <;> (first | omega | with_reducible rfl)) | (simp; done) | (simp; omega)) ?_)
         | refine z_guard1 (by decide) rfl rfl (fun hc => ?_) (fun hc => ?_)
         | refine z_guardb (by decide) rfl rfl (fun hc => ?_) (fun hc => ?_))
         | (refine z_isg0 ?_; first
         | refine z_skipu (by decide) rfl rfl ?_
         | (refine z_want0 rfl rfl (by first | with_reducible rfl | with_reducible assumption | ((with_reducible refine decide_eq_false ?_); first | with_reducible assumption | omega)) ?_)
         | (refine z_skip0 (by decide) rfl rfl (by first | with_reducible rfl | with_reducible assumption | ((with_reducible refine decide_eq_true ?_); first | with_reducible rfl | with_reducible assumption | omega)) ?_)
         | (refine z_want0 rfl rfl (by first | (simp only [Bool.not_eq_false', decide_eq_true_eq]; omega) | (with_reducible assumption) | (rw [decide_eq_false] <;> (first | omega | with_reducible rfl)) | (rw [decide_eq_true] <;> (first | omega | with_reducible rfl)) | (simp; done) | (simp; omega)) ?_)
         | (refine z_skip0 (by decide) rfl rfl (by first | (simp only [Bool.not_eq_true', decide_eq_false_iff_not]; omega) | (with_reducible assumption) | (rw [decide_eq_false] <;> (first | omega | with_reducible rfl)) | (rw [decide_eq_true] <;> (first | omega | with_reducible rfl)) | (simp; done) | (simp; omega)) ?_)
         | refine z_guard0 (by decide) rfl rfl (fun hc => ?_) (fun hc => ?_)
         | refine z_guardb (by decide) rfl rfl (fun hc => ?_) (fun hc => ?_))
         | (refine z_isnil ?_; first
         | refine z_list ?_
         | refine z_mixed ?_
         | refine z_mono0 ?_
         | refine z_mono1 (by decide) fun g => ?_
         | refine z_mono2 (by decide) (by decide) fun g g' => ?_
         | refine z_mixedx ?_
         | refine z_quiet ?_)
         | (refine z_isop ?_; first
         | refine o_indexsn tabOk (hne0 (by omega)) rfl rfl rfl rfl (by omega) (by omega) (by decide) ?_
         | refine o_indexm tabOk rfl rfl rfl rfl (by omega) (by omega) (by decide) ?_
         | refine o_build0 (t := 102) (v := .agg Pe.zero.cs.toArray) (fun _ => by kernel_rfl) (by decide) ?_
         | refine o_build0 (t := 66) (v := .agg Pe.zero.cs.toArray) (fun _ => by kernel_rfl) (by decide) ?_
         | refine o_alloca (e := 102) (vs := Pe.zero.cs) rfl (by kernel_rfl) (by decide) fun g => ?_
         | refine o_alloca (e := 66) (vs := Pe.zero.cs) rfl (by kernel_rfl) (by decide) fun g => ?_
         | refine o_boxa rfl rfl (by decide) fun g => ?_
         | (refine z_isbin ?_; first
         | (refine z_isb .add ?_; first
         | refine o_add rfl rfl (by omega) (by omega) (by decide) ?_
         | refine o_addw rfl rfl (by decide) ?_)
         | (refine z_isb .eql ?_; first
         | refine o_eq rfl rfl (by decide) ?_
         | refine o_beq tabOk rfl rfl rfl (by decide) ?_
         | refine o_peq tabOk rfl rfl (by decide) ?_)
         | (refine z_isb .neq ?_; first
         | refine o_ne rfl rfl (by decide) ?_
         | refine o_bne tabOk rfl rfl rfl (by decide) ?_
         | refine o_pne tabOk rfl rfl (by decide) ?_)
         | (refine z_isb .lss ?_; first
         | refine o_lt rfl rfl (by decide) ?_)
         | (refine z_isb .leq ?_; first
         | refine o_le rfl rfl (by decide) ?_))
         | (refine z_isload ?_; first
         | (refine o_loadsw tabOk (Rds.cons _ (Rds.cons _ hrd)) rfl rfl rfl (es := d.cs) (dd_len _) (by rw [dd_len]; decide) (dd_at D d hd) (by decide) ?_)
         | refine o_loadp tabOk rfl rfl rfl 0 rfl (pe_len _) (tcs_el _ (by omega)) (by decide) ?_
         | refine o_loadp tabOk rfl rfl rfl 1 rfl (pe_len _) (tcs_el _ (by omega)) (by decide) ?_
         | (refine z_ld1 tabOk rfl rfl ?_; first
         | refine o_loadm tabOk rfl rfl rfl (by repeat' (first | exact List.mem_cons_self | apply List.mem_cons_of_mem)) (by first | exact tcs_s _ (by omega) | exact tcs_p _ (by omega) | exact tcs_u _ (by omega) | exact dd_k _ | exact dd_n _ | exact dd_u _ | rfl) (by decide) ?_
         | refine o_loads tabOk (by first | assumption | exact Rds.cons _ (by assumption) | exact Rds.cons _ (Rds.cons _ (by assumption)) | exact own_rds 0 rfl | exact own_rds 1 rfl | exact own_rds 2 rfl) rfl rfl rfl (by first | exact tcs_s _ (by omega) | exact tcs_p _ (by omega) | exact tcs_u _ (by omega) | exact dd_k _ | exact dd_n _ | exact dd_u _ | rfl) (by decide) ?_)
         | (refine z_ldw tabOk rfl rfl ?_; first
         | refine o_loadwm tabOk rfl rfl rfl (by repeat' (first | exact List.mem_cons_self | apply List.mem_cons_of_mem)) (by first | exact dd_len _ | (simp only [dd_len]) | rfl) (by decide) ?_))
         | (refine z_iscall ?_; first
         | ((refine z_iscallf 27 ?_; refine o_call Try.func27 rfl rfl rfl (does_c e hok _ _ d) (List.Perm.refl _) (by decide) fun _ _ => ?_))
         | ((refine z_iscallf 54 ?_; refine o_callr rfl Try.func54 rfl rfl rfl (in_c _ _ _ _ (by first | exact cells_rds 0 rfl | exact cells_rds 1 rfl | exact cells_rds 2 rfl)) (by decide) ?_))
         | ((refine z_iscallf 57 ?_; refine o_callr rfl Try.func57 rfl rfl rfl (ralive_c _ _ _ _ (by first | exact cells_rds 0 rfl | exact cells_rds 1 rfl | exact cells_rds 2 rfl)) (by decide) ?_))
         | ((refine z_iscallf 32 ?_; refine o_fn rfl Try.func32 rfl rfl rfl (awake_p) (by decide) ?_))
         | ((refine z_iscallf 25 ?_; refine o_calla Try.func25 rfl rfl rfl (new_c _) (by decide) fun g1 _ => ?_))
         | ((refine z_iscallf 26 ?_; refine o_calla Try.func26 rfl rfl rfl (rnew_c _) (by decide) fun g2 _ => ?_))
         | ((refine z_iscallf 28 ?_; refine o_callr rfl Try.func28 rfl rfl rfl (alive_c _ _ _ _ (cells_rds 0 rfl)) (by decide) ?_))
         | ((refine z_iscallf 29 ?_; refine o_callr rfl Try.func29 rfl rfl rfl (status_c _ _ _ _ (cells_rds 0 rfl)) (by decide) ?_))
         | ((refine z_iscallf 30 ?_; refine o_callr rfl Try.func30 rfl rfl rfl (parent_c _ _ _ _ (cells_rds 0 rfl)) (by decide) ?_))
         | ((refine z_iscallf 31 ?_; refine o_call Try.func31 rfl rfl rfl (wait_c _ _ _) (List.Perm.refl _) (by decide) fun _ _ => ?_)))
         | (refine z_ispick ?_; first
         | (refine o_pick1 rfl (by first | with_reducible rfl | with_reducible assumption | ((with_reducible refine decide_eq_true ?_); first | with_reducible rfl | with_reducible assumption | omega)) rfl (by decide) ?_)
         | (refine o_pick0 rfl (by first | with_reducible rfl | with_reducible assumption | ((with_reducible refine decide_eq_false ?_); first | with_reducible assumption | omega)) rfl (by decide) ?_)
         | (refine o_pick1 rfl (by first | (simp only [Bool.not_eq_true', decide_eq_false_iff_not]; omega) | (with_reducible assumption) | (rw [decide_eq_false] <;> (first | omega | with_reducible rfl)) | (rw [decide_eq_true] <;> (first | omega | with_reducible rfl)) | (simp; done) | (simp; omega)) rfl (by decide) ?_)
         | (refine o_pick0 rfl (by first | (simp only [Bool.not_eq_false', decide_eq_true_eq]; omega) | (with_reducible assumption) | (rw [decide_eq_false] <;> (first | omega | with_reducible rfl)) | (rw [decide_eq_true] <;> (first | omega | with_reducible rfl)) | (simp; done) | (simp; omega)) rfl (by decide) ?_))
         | (refine z_isix ?_; first
         | refine o_index0 tabOk rfl rfl rfl rfl (by omega) (by omega) (by decide) ?_
         | refine o_index1 tabOk rfl rfl rfl rfl (by omega) (by omega) (by decide) ?_
         | refine o_indexsk1 tabOk rfl rfl rfl rfl (by omega) (by omega) (by decide) ?_
         | refine o_indexsk tabOk rfl rfl rfl rfl (by omega) (by omega) (by decide) ?_
         | refine o_indexs1 tabOk (by first | assumption) rfl rfl rfl rfl (by omega) (by omega) (by decide) ?_)
         | (refine z_isbi ?_; first
         | refine o_len tabOk rfl rfl (by decide) ?_
         | refine o_min rfl rfl (by decide) ?_
         | refine o_max rfl rfl (by decide) ?_)
         | refine o_move rfl (by decide) ?_
         | refine o_assign rfl (by decide) ?_
         | refine o_nil rfl (by decide) ?_
         | refine o_extract rfl rfl (by decide) ?_
         | refine o_not rfl (by decide) ?_
         | refine o_field0 tabOk rfl rfl rfl rfl rfl (by decide) ?_
         | refine o_field tabOk rfl rfl rfl rfl rfl (by decide) ?_
         | refine o_conv tabOk rfl rfl rfl (by decide) ?_))
        refine Hold.go ?_
        have hn8 : (n : Int) < 8 := by omega
        rcases wait_two f with ⟨hA, hB, hC⟩ | ⟨hA, hB, hC, hD⟩
        · skip
          repeat' (first
           | (refine s_is ?_; first
           | (refine s_isret ?_; first
           | exact f_r1 rfl (res_t rfl) () trivial (by first | rfl | simp [hA, hB]) (fun w h => ((h.sel 3 [2, 0, 1] (by decide)).mask [true, false, false])))
           | (refine s_isw ?_; first
           | refine c_seq ?_
           | refine c_block ?_
           | refine c_region ?_
           | refine c_mixed mixed (by kernel_rfl) ?_
           | refine c_skip ?_
           | refine c_ret ?_
           | refine c_exit ?_
           | (refine s_iscond ?_; first
           | (refine c_true rfl (by first | with_reducible rfl | with_reducible assumption | ((with_reducible refine decide_eq_true ?_); first | with_reducible rfl | with_reducible assumption | omega)) ?_)
           | (refine c_false rfl (by first | with_reducible rfl | with_reducible assumption | ((with_reducible refine decide_eq_false ?_); first | with_reducible assumption | omega)) ?_)
           | (refine c_true rfl (by first | (simp only [Bool.not_eq_true', decide_eq_false_iff_not]; omega) | (with_reducible assumption) | (rw [decide_eq_false] <;> (first | omega | with_reducible rfl)) | (rw [decide_eq_true] <;> (first | omega | with_reducible rfl)) | (simp; done) | (simp; omega)) ?_)
           | (refine c_false rfl (by first | (simp only [Bool.not_eq_false', decide_eq_true_eq]; omega) | (with_reducible assumption) | (rw [decide_eq_false] <;> (first | omega | with_reducible rfl)) | (rw [decide_eq_true] <;> (first | omega | with_reducible rfl)) | (simp; done) | (simp; omega)) ?_)
           | refine c_cond rfl (fun hc => ?_) (fun hc => ?_)
           | refine c_condb rfl (fun hc => ?_) (fun hc => ?_)))
           | refine x_then ?_
           | refine x_then_ret ?_
           | refine x_then_exit ?_
           | refine x_block _ ?_
           | refine x_block_ret _ ?_
           | refine x_block_exit _ ?_
           | refine x_block_past (by decide) ?_
           | refine z_tailm ?_)
           | (refine z_isg1 ?_; first
           | refine z_skipu (by decide) rfl rfl ?_
           | (refine z_want1 rfl rfl (by first | with_reducible rfl | with_reducible assumption | ((with_reducible refine decide_eq_true ?_); first | with_reducible rfl | with_reducible assumption | omega)) ?_)
           | (refine z_skip1 (by decide) rfl rfl (by first | with_reducible rfl | with_reducible assumption | ((with_reducible refine decide_eq_false ?_); first | with_reducible assumption | omega)) ?_)
           | (refine z_want1 rfl rfl (by first | (simp only [Bool.not_eq_true', decide_eq_false_iff_not]; omega) | (with_reducible assumption) | (rw [decide_eq_false] <;> (first | omega | with_reducible rfl)) | (rw [decide_eq_true] <;> (first | omega | with_reducible rfl)) | (simp; done) | (simp; omega)) ?_)
           | (refine z_skip1 (by decide) rfl rfl (by first | (simp only [Bool.not_eq_false', decide_eq_true_eq]; omega) | (with_reducible assumption) | (rw [decide_eq_false] <;> (first | omega | with_reducible rfl)) | (rw [decide_eq_true] <;> (first | omega | with_reducible rfl)) | (simp; done) | (simp; omega)) ?_)
           | refine z_guard1 (by decide) rfl rfl (fun hc => ?_) (fun hc => ?_)
           | refine z_guardb (by decide) rfl rfl (fun hc => ?_) (fun hc => ?_))
           | (refine z_isg0 ?_; first
           | refine z_skipu (by decide) rfl rfl ?_
           | (refine z_want0 rfl rfl (by first | with_reducible rfl | with_reducible assumption | ((with_reducible refine decide_eq_false ?_); first | with_reducible assumption | omega)) ?_)
           | (refine z_skip0 (by decide) rfl rfl (by first | with_reducible rfl | with_reducible assumption | ((with_reducible refine decide_eq_true ?_); first | with_reducible rfl | with_reducible assumption | omega)) ?_)
           | (refine z_want0 rfl rfl (by first | (simp only [Bool.not_eq_false', decide_eq_true_eq]; omega) | (with_reducible assumption) | (rw [decide_eq_false] <;> (first | omega | with_reducible rfl)) | (rw [decide_eq_true] <;> (first | omega | with_reducible rfl)) | (simp; done) | (simp; omega)) ?_)
           | (refine z_skip0 (by decide) rfl rfl (by first | (simp only [Bool.not_eq_true', decide_eq_false_iff_not]; omega) | (with_reducible assumption) | (rw [decide_eq_false] <;> (first | omega | with_reducible rfl)) | (rw [decide_eq_true] <;> (first | omega | with_reducible rfl)) | (simp; done) | (simp; omega)) ?_)
           | refine z_guard0 (by decide) rfl rfl (fun hc => ?_) (fun hc => ?_)
           | refine z_guardb (by decide) rfl rfl (fun hc => ?_) (fun hc => ?_))
           | (refine z_isnil ?_; first
           | refine z_list ?_
           | refine z_mixed ?_
           | refine z_mono0 ?_
           | refine z_mono1 (by decide) fun g => ?_
           | refine z_mono2 (by decide) (by decide) fun g g' => ?_
           | refine z_mixedx ?_
           | refine z_quiet ?_)
           | (refine z_isop ?_; first
           | refine o_indexm tabOk rfl rfl rfl rfl (by omega) (by omega) (by decide) ?_
           | refine o_build0 (t := 102) (v := .agg Pe.zero.cs.toArray) (fun _ => by kernel_rfl) (by decide) ?_
           | refine o_build0 (t := 66) (v := .agg Pe.zero.cs.toArray) (fun _ => by kernel_rfl) (by decide) ?_
           | refine o_alloca (e := 102) (vs := Pe.zero.cs) rfl (by kernel_rfl) (by decide) fun g => ?_
           | refine o_alloca (e := 66) (vs := Pe.zero.cs) rfl (by kernel_rfl) (by decide) fun g => ?_
           | refine o_boxa rfl rfl (by decide) fun g => ?_
           | (refine z_isbin ?_; first
           | (refine z_isb .add ?_; first
           | refine o_add rfl rfl (by omega) (by omega) (by decide) ?_
           | refine o_addw rfl rfl (by decide) ?_)
           | (refine z_isb .eql ?_; first
           | refine o_eq rfl rfl (by decide) ?_
           | refine o_beq tabOk rfl rfl rfl (by decide) ?_
           | refine o_peq tabOk rfl rfl (by decide) ?_)
           | (refine z_isb .neq ?_; first
           | refine o_ne rfl rfl (by decide) ?_
           | refine o_bne tabOk rfl rfl rfl (by decide) ?_
           | refine o_pne tabOk rfl rfl (by decide) ?_)
           | (refine z_isb .lss ?_; first
           | refine o_lt rfl rfl (by decide) ?_)
           | (refine z_isb .leq ?_; first
           | refine o_le rfl rfl (by decide) ?_))
           | (refine z_isload ?_; first
           | refine o_loadp tabOk rfl rfl rfl 0 rfl (pe_len _) (tcs_el _ (by omega)) (by decide) ?_
           | refine o_loadp tabOk rfl rfl rfl 1 rfl (pe_len _) (tcs_el _ (by omega)) (by decide) ?_
           | (refine z_ld1 tabOk rfl rfl ?_; first
           | refine o_loadm tabOk rfl rfl rfl (by repeat' (first | exact List.mem_cons_self | apply List.mem_cons_of_mem)) (by first | exact tcs_s _ (by omega) | exact tcs_p _ (by omega) | exact tcs_u _ (by omega) | exact dd_k _ | exact dd_n _ | exact dd_u _ | rfl) (by decide) ?_
           | refine o_loads tabOk (by first | assumption | exact Rds.cons _ (by assumption) | exact Rds.cons _ (Rds.cons _ (by assumption)) | exact own_rds 0 rfl | exact own_rds 1 rfl | exact own_rds 2 rfl) rfl rfl rfl (by first | exact tcs_s _ (by omega) | exact tcs_p _ (by omega) | exact tcs_u _ (by omega) | exact dd_k _ | exact dd_n _ | exact dd_u _ | rfl) (by decide) ?_)
           | (refine z_ldw tabOk rfl rfl ?_; first
           | refine o_loadwm tabOk rfl rfl rfl (by repeat' (first | exact List.mem_cons_self | apply List.mem_cons_of_mem)) (by first | exact dd_len _ | (simp only [dd_len]) | rfl) (by decide) ?_))
           | (refine z_iscall ?_; first
           | ((refine z_iscallf 54 ?_; refine o_callr rfl Try.func54 rfl rfl rfl (in_c _ _ _ _ (by first | exact cells_rds 0 rfl | exact cells_rds 1 rfl | exact cells_rds 2 rfl)) (by decide) ?_))
           | ((refine z_iscallf 57 ?_; refine o_callr rfl Try.func57 rfl rfl rfl (ralive_c _ _ _ _ (by first | exact cells_rds 0 rfl | exact cells_rds 1 rfl | exact cells_rds 2 rfl)) (by decide) ?_))
           | ((refine z_iscallf 32 ?_; refine o_fn rfl Try.func32 rfl rfl rfl (awake_p) (by decide) ?_))
           | ((refine z_iscallf 25 ?_; refine o_calla Try.func25 rfl rfl rfl (new_c _) (by decide) fun g1 _ => ?_))
           | ((refine z_iscallf 26 ?_; refine o_calla Try.func26 rfl rfl rfl (rnew_c _) (by decide) fun g2 _ => ?_))
           | ((refine z_iscallf 28 ?_; refine o_callr rfl Try.func28 rfl rfl rfl (alive_c _ _ _ _ (cells_rds 0 rfl)) (by decide) ?_))
           | ((refine z_iscallf 29 ?_; refine o_callr rfl Try.func29 rfl rfl rfl (status_c _ _ _ _ (cells_rds 0 rfl)) (by decide) ?_))
           | ((refine z_iscallf 30 ?_; refine o_callr rfl Try.func30 rfl rfl rfl (parent_c _ _ _ _ (cells_rds 0 rfl)) (by decide) ?_))
           | ((refine z_iscallf 31 ?_; refine o_call Try.func31 rfl rfl rfl (wait_c _ _ _) (List.Perm.refl _) (by decide) fun _ _ => ?_)))
           | (refine z_ispick ?_; first
           | (refine o_pick1 rfl (by first | with_reducible rfl | with_reducible assumption | ((with_reducible refine decide_eq_true ?_); first | with_reducible rfl | with_reducible assumption | omega)) rfl (by decide) ?_)
           | (refine o_pick0 rfl (by first | with_reducible rfl | with_reducible assumption | ((with_reducible refine decide_eq_false ?_); first | with_reducible assumption | omega)) rfl (by decide) ?_)
           | (refine o_pick1 rfl (by first | (simp only [Bool.not_eq_true', decide_eq_false_iff_not]; omega) | (with_reducible assumption) | (rw [decide_eq_false] <;> (first | omega | with_reducible rfl)) | (rw [decide_eq_true] <;> (first | omega | with_reducible rfl)) | (simp; done) | (simp; omega)) rfl (by decide) ?_)
           | (refine o_pick0 rfl (by first | (simp only [Bool.not_eq_false', decide_eq_true_eq]; omega) | (with_reducible assumption) | (rw [decide_eq_false] <;> (first | omega | with_reducible rfl)) | (rw [decide_eq_true] <;> (first | omega | with_reducible rfl)) | (simp; done) | (simp; omega)) rfl (by decide) ?_))
           | (refine z_isix ?_; first
           | refine o_index0 tabOk rfl rfl rfl rfl (by omega) (by omega) (by decide) ?_
           | refine o_index1 tabOk rfl rfl rfl rfl (by omega) (by omega) (by decide) ?_
           | refine o_indexsk1 tabOk rfl rfl rfl rfl (by omega) (by omega) (by decide) ?_
           | refine o_indexsk tabOk rfl rfl rfl rfl (by omega) (by omega) (by decide) ?_
           | refine o_indexs1 tabOk (by first | assumption) rfl rfl rfl rfl (by omega) (by omega) (by decide) ?_)
           | (refine z_isbi ?_; first
           | refine o_len tabOk rfl rfl (by decide) ?_
           | refine o_min rfl rfl (by decide) ?_
           | refine o_max rfl rfl (by decide) ?_)
           | refine o_move rfl (by decide) ?_
           | refine o_assign rfl (by decide) ?_
           | refine o_nil rfl (by decide) ?_
           | refine o_extract rfl rfl (by decide) ?_
           | refine o_not rfl (by decide) ?_
           | refine o_field0 tabOk rfl rfl rfl rfl rfl (by decide) ?_
           | refine o_field tabOk rfl rfl rfl rfl rfl (by decide) ?_
           | refine o_conv tabOk rfl rfl rfl (by decide) ?_))
        · skip
          repeat' (first
           | (refine s_is ?_; first
           | (refine s_isagain ?_; first
           | (exact c_again (n + 1, (wait f 1).e) (by dsimp only; omega) (by dsimp only; omega) ⟨rfl, rfl, trivial⟩ (fun w h => h)))
           | (refine s_isw ?_; first
           | refine c_seq ?_
           | refine c_block ?_
           | refine c_region ?_
           | refine c_mixed mixed (by kernel_rfl) ?_
           | refine c_skip ?_
           | refine c_ret ?_
           | refine c_exit ?_
           | (refine s_iscond ?_; first
           | (refine c_true rfl (by first | with_reducible rfl | with_reducible assumption | ((with_reducible refine decide_eq_true ?_); first | with_reducible rfl | with_reducible assumption | omega)) ?_)
           | (refine c_false rfl (by first | with_reducible rfl | with_reducible assumption | ((with_reducible refine decide_eq_false ?_); first | with_reducible assumption | omega)) ?_)
           | (refine c_true rfl (by first | (simp only [Bool.not_eq_true', decide_eq_false_iff_not]; omega) | (with_reducible assumption) | (rw [decide_eq_false] <;> (first | omega | with_reducible rfl)) | (rw [decide_eq_true] <;> (first | omega | with_reducible rfl)) | (simp; done) | (simp; omega)) ?_)
           | (refine c_false rfl (by first | (simp only [Bool.not_eq_false', decide_eq_true_eq]; omega) | (with_reducible assumption) | (rw [decide_eq_false] <;> (first | omega | with_reducible rfl)) | (rw [decide_eq_true] <;> (first | omega | with_reducible rfl)) | (simp; done) | (simp; omega)) ?_)
           | refine c_cond rfl (fun hc => ?_) (fun hc => ?_)
           | refine c_condb rfl (fun hc => ?_) (fun hc => ?_)))
           | refine x_then ?_
           | refine x_then_ret ?_
           | refine x_then_exit ?_
           | refine x_block _ ?_
           | refine x_block_ret _ ?_
           | refine x_block_exit _ ?_
           | refine x_block_past (by decide) ?_
           | refine z_tailm ?_)
           | (refine z_isg1 ?_; first
           | refine z_skipu (by decide) rfl rfl ?_
           | (refine z_want1 rfl rfl (by first | with_reducible rfl | with_reducible assumption | ((with_reducible refine decide_eq_true ?_); first | with_reducible rfl | with_reducible assumption | omega)) ?_)
           | (refine z_skip1 (by decide) rfl rfl (by first | with_reducible rfl | with_reducible assumption | ((with_reducible refine decide_eq_false ?_); first | with_reducible assumption | omega)) ?_)
           | (refine z_want1 rfl rfl (by first | (simp only [Bool.not_eq_true', decide_eq_false_iff_not]; omega) | (with_reducible assumption) | (rw [decide_eq_false] <;> (first | omega | with_reducible rfl)) | (rw [decide_eq_true] <;> (first | omega | with_reducible rfl)) | (simp; done) | (simp; omega)) ?_)
           | (refine z_skip1 (by decide) rfl rfl (by first | (simp only [Bool.not_eq_false', decide_eq_true_eq]; omega) | (with_reducible assumption) | (rw [decide_eq_false] <;> (first | omega | with_reducible rfl)) | (rw [decide_eq_true] <;> (first | omega | with_reducible rfl)) | (simp; done) | (simp; omega)) ?_)
           | refine z_guard1 (by decide) rfl rfl (fun hc => ?_) (fun hc => ?_)
           | refine z_guardb (by decide) rfl rfl (fun hc => ?_) (fun hc => ?_))
           | (refine z_isg0 ?_; first
           | refine z_skipu (by decide) rfl rfl ?_
           | (refine z_want0 rfl rfl (by first | with_reducible rfl | with_reducible assumption | ((with_reducible refine decide_eq_false ?_); first | with_reducible assumption | omega)) ?_)
           | (refine z_skip0 (by decide) rfl rfl (by first | with_reducible rfl | with_reducible assumption | ((with_reducible refine decide_eq_true ?_); first | with_reducible rfl | with_reducible assumption | omega)) ?_)
           | (refine z_want0 rfl rfl (by first | (simp only [Bool.not_eq_false', decide_eq_true_eq]; omega) | (with_reducible assumption) | (rw [decide_eq_false] <;> (first | omega | with_reducible rfl)) | (rw [decide_eq_true] <;> (first | omega | with_reducible rfl)) | (simp; done) | (simp; omega)) ?_)
           | (refine z_skip0 (by decide) rfl rfl (by first | (simp only [Bool.not_eq_true', decide_eq_false_iff_not]; omega) | (with_reducible assumption) | (rw [decide_eq_false] <;> (first | omega | with_reducible rfl)) | (rw [decide_eq_true] <;> (first | omega | with_reducible rfl)) | (simp; done) | (simp; omega)) ?_)
           | refine z_guard0 (by decide) rfl rfl (fun hc => ?_) (fun hc => ?_)
           | refine z_guardb (by decide) rfl rfl (fun hc => ?_) (fun hc => ?_))
           | (refine z_isnil ?_; first
           | refine z_list ?_
           | refine z_mixed ?_
           | refine z_mono0 ?_
           | refine z_mono1 (by decide) fun g => ?_
           | refine z_mono2 (by decide) (by decide) fun g g' => ?_
           | refine z_mixedx ?_
           | refine z_quiet ?_)
           | (refine z_isop ?_; first
           | refine o_indexm tabOk rfl rfl rfl rfl (by omega) (by omega) (by decide) ?_
           | refine o_build0 (t := 102) (v := .agg Pe.zero.cs.toArray) (fun _ => by kernel_rfl) (by decide) ?_
           | refine o_build0 (t := 66) (v := .agg Pe.zero.cs.toArray) (fun _ => by kernel_rfl) (by decide) ?_
           | refine o_alloca (e := 102) (vs := Pe.zero.cs) rfl (by kernel_rfl) (by decide) fun g => ?_
           | refine o_alloca (e := 66) (vs := Pe.zero.cs) rfl (by kernel_rfl) (by decide) fun g => ?_
           | refine o_boxa rfl rfl (by decide) fun g => ?_
           | (refine z_isbin ?_; first
           | (refine z_isb .add ?_; first
           | refine o_add rfl rfl (by omega) (by omega) (by decide) ?_
           | refine o_addw rfl rfl (by decide) ?_)
           | (refine z_isb .eql ?_; first
           | refine o_eq rfl rfl (by decide) ?_
           | refine o_beq tabOk rfl rfl rfl (by decide) ?_
           | refine o_peq tabOk rfl rfl (by decide) ?_)
           | (refine z_isb .neq ?_; first
           | refine o_ne rfl rfl (by decide) ?_
           | refine o_bne tabOk rfl rfl rfl (by decide) ?_
           | refine o_pne tabOk rfl rfl (by decide) ?_)
           | (refine z_isb .lss ?_; first
           | refine o_lt rfl rfl (by decide) ?_)
           | (refine z_isb .leq ?_; first
           | refine o_le rfl rfl (by decide) ?_))
           | (refine z_isload ?_; first
           | refine o_loadp tabOk rfl rfl rfl 0 rfl (pe_len _) (tcs_el _ (by omega)) (by decide) ?_
           | refine o_loadp tabOk rfl rfl rfl 1 rfl (pe_len _) (tcs_el _ (by omega)) (by decide) ?_
           | (refine z_ld1 tabOk rfl rfl ?_; first
           | refine o_loadm tabOk rfl rfl rfl (by repeat' (first | exact List.mem_cons_self | apply List.mem_cons_of_mem)) (by first | exact tcs_s _ (by omega) | exact tcs_p _ (by omega) | exact tcs_u _ (by omega) | exact dd_k _ | exact dd_n _ | exact dd_u _ | rfl) (by decide) ?_
           | refine o_loads tabOk (by first | assumption | exact Rds.cons _ (by assumption) | exact Rds.cons _ (Rds.cons _ (by assumption)) | exact own_rds 0 rfl | exact own_rds 1 rfl | exact own_rds 2 rfl) rfl rfl rfl (by first | exact tcs_s _ (by omega) | exact tcs_p _ (by omega) | exact tcs_u _ (by omega) | exact dd_k _ | exact dd_n _ | exact dd_u _ | rfl) (by decide) ?_)
           | (refine z_ldw tabOk rfl rfl ?_; first
           | refine o_loadwm tabOk rfl rfl rfl (by repeat' (first | exact List.mem_cons_self | apply List.mem_cons_of_mem)) (by first | exact dd_len _ | (simp only [dd_len]) | rfl) (by decide) ?_))
           | (refine z_iscall ?_; first
           | ((refine z_iscallf 54 ?_; refine o_callr rfl Try.func54 rfl rfl rfl (in_c _ _ _ _ (by first | exact cells_rds 0 rfl | exact cells_rds 1 rfl | exact cells_rds 2 rfl)) (by decide) ?_))
           | ((refine z_iscallf 57 ?_; refine o_callr rfl Try.func57 rfl rfl rfl (ralive_c _ _ _ _ (by first | exact cells_rds 0 rfl | exact cells_rds 1 rfl | exact cells_rds 2 rfl)) (by decide) ?_))
           | ((refine z_iscallf 32 ?_; refine o_fn rfl Try.func32 rfl rfl rfl (awake_p) (by decide) ?_))
           | ((refine z_iscallf 25 ?_; refine o_calla Try.func25 rfl rfl rfl (new_c _) (by decide) fun g1 _ => ?_))
           | ((refine z_iscallf 26 ?_; refine o_calla Try.func26 rfl rfl rfl (rnew_c _) (by decide) fun g2 _ => ?_))
           | ((refine z_iscallf 28 ?_; refine o_callr rfl Try.func28 rfl rfl rfl (alive_c _ _ _ _ (cells_rds 0 rfl)) (by decide) ?_))
           | ((refine z_iscallf 29 ?_; refine o_callr rfl Try.func29 rfl rfl rfl (status_c _ _ _ _ (cells_rds 0 rfl)) (by decide) ?_))
           | ((refine z_iscallf 30 ?_; refine o_callr rfl Try.func30 rfl rfl rfl (parent_c _ _ _ _ (cells_rds 0 rfl)) (by decide) ?_))
           | ((refine z_iscallf 31 ?_; refine o_call Try.func31 rfl rfl rfl (wait_c _ _ _) (List.Perm.refl _) (by decide) fun _ _ => ?_)))
           | (refine z_ispick ?_; first
           | (refine o_pick1 rfl (by first | with_reducible rfl | with_reducible assumption | ((with_reducible refine decide_eq_true ?_); first | with_reducible rfl | with_reducible assumption | omega)) rfl (by decide) ?_)
           | (refine o_pick0 rfl (by first | with_reducible rfl | with_reducible assumption | ((with_reducible refine decide_eq_false ?_); first | with_reducible assumption | omega)) rfl (by decide) ?_)
           | (refine o_pick1 rfl (by first | (simp only [Bool.not_eq_true', decide_eq_false_iff_not]; omega) | (with_reducible assumption) | (rw [decide_eq_false] <;> (first | omega | with_reducible rfl)) | (rw [decide_eq_true] <;> (first | omega | with_reducible rfl)) | (simp; done) | (simp; omega)) rfl (by decide) ?_)
           | (refine o_pick0 rfl (by first | (simp only [Bool.not_eq_false', decide_eq_true_eq]; omega) | (with_reducible assumption) | (rw [decide_eq_false] <;> (first | omega | with_reducible rfl)) | (rw [decide_eq_true] <;> (first | omega | with_reducible rfl)) | (simp; done) | (simp; omega)) rfl (by decide) ?_))
           | (refine z_isix ?_; first
           | refine o_index0 tabOk rfl rfl rfl rfl (by omega) (by omega) (by decide) ?_
           | refine o_index1 tabOk rfl rfl rfl rfl (by omega) (by omega) (by decide) ?_
           | refine o_indexsk1 tabOk rfl rfl rfl rfl (by omega) (by omega) (by decide) ?_
           | refine o_indexsk tabOk rfl rfl rfl rfl (by omega) (by omega) (by decide) ?_
           | refine o_indexs1 tabOk (by first | assumption) rfl rfl rfl rfl (by omega) (by omega) (by decide) ?_)
           | (refine z_isbi ?_; first
           | refine o_len tabOk rfl rfl (by decide) ?_
           | refine o_min rfl rfl (by decide) ?_
           | refine o_max rfl rfl (by decide) ?_)
           | refine o_move rfl (by decide) ?_
           | refine o_assign rfl (by decide) ?_
           | refine o_nil rfl (by decide) ?_
           | refine o_extract rfl rfl (by decide) ?_
           | refine o_not rfl (by decide) ?_
           | refine o_field0 tabOk rfl rfl rfl rfl rfl (by decide) ?_
           | refine o_field tabOk rfl rfl rfl rfl rfl (by decide) ?_
           | refine o_conv tabOk rfl rfl rfl (by decide) ?_))
    · skip
      repeat' (first
       | (refine s_is ?_; first
       | (refine s_isw ?_; first
       | (refine s_isloop ?_; first
       | ((refine c_loop (X := Nat × Tb) (fun y => y.1 + cntF y.2 7 ≤ 7) (fun y => [(3, .pointer (some ⟨g1, 0, none⟩)), (9, .int .i64 y.1)]) (fun y => [cells g1 105 (tcs y.2), cells g2 69 (tcs e), old W]) (fun y => 8 - y.1) (0, e) (by dsimp only; have := cntF_le e 7; omega) ⟨rfl, rfl, trivial⟩ (fun w h => h) (fun y hy => ?_); obtain ⟨n, f⟩ := y; dsimp only at hy ⊢; refine hold ?_)))
       | refine c_seq ?_
       | refine c_block ?_
       | refine c_region ?_
       | refine c_mixed mixed (by kernel_rfl) ?_
       | refine c_skip ?_
       | refine c_ret ?_
       | refine c_exit ?_
       | (refine s_iscond ?_; first
       | (refine c_true rfl (by first | with_reducible rfl | with_reducible assumption | ((with_reducible refine decide_eq_true ?_); first | with_reducible rfl | with_reducible assumption | omega)) ?_)
       | (refine c_false rfl (by first | with_reducible rfl | with_reducible assumption | ((with_reducible refine decide_eq_false ?_); first | with_reducible assumption | omega)) ?_)
       | (refine c_true rfl (by first | (simp only [Bool.not_eq_true', decide_eq_false_iff_not]; omega) | (with_reducible assumption) | (rw [decide_eq_false] <;> (first | omega | with_reducible rfl)) | (rw [decide_eq_true] <;> (first | omega | with_reducible rfl)) | (simp; done) | (simp; omega)) ?_)
       | (refine c_false rfl (by first | (simp only [Bool.not_eq_false', decide_eq_true_eq]; omega) | (with_reducible assumption) | (rw [decide_eq_false] <;> (first | omega | with_reducible rfl)) | (rw [decide_eq_true] <;> (first | omega | with_reducible rfl)) | (simp; done) | (simp; omega)) ?_)
       | refine c_cond rfl (fun hc => ?_) (fun hc => ?_)
       | refine c_condb rfl (fun hc => ?_) (fun hc => ?_)))
       | refine x_then ?_
       | refine x_then_ret ?_
       | refine x_then_exit ?_
       | refine x_block _ ?_
       | refine x_block_ret _ ?_
       | refine x_block_exit _ ?_
       | refine x_block_past (by decide) ?_
       | refine z_tailm ?_)
       | (refine z_isg1 ?_; first
       | refine z_skipu (by decide) rfl rfl ?_
       | (refine z_want1 rfl rfl (by first | with_reducible rfl | with_reducible assumption | ((with_reducible refine decide_eq_true ?_); first | with_reducible rfl | with_reducible assumption | omega)) ?_)
       | (refine z_skip1 (by decide) rfl rfl (by first | with_reducible rfl | with_reducible assumption | ((with_reducible refine decide_eq_false ?_); first | with_reducible assumption | omega)) ?_)
       | (refine z_want1 rfl rfl (by first | (simp only [Bool.not_eq_true', decide_eq_false_iff_not]; omega) | (with_reducible assumption) | (rw [decide_eq_false] <;> (first | omega | with_reducible rfl)) | (rw [decide_eq_true] <;> (first | omega | with_reducible rfl)) | (simp; done) | (simp; omega)) ?_)
       | (refine z_skip1 (by decide) rfl rfl (by first | (simp only [Bool.not_eq_false', decide_eq_true_eq]; omega) | (with_reducible assumption) | (rw [decide_eq_false] <;> (first | omega | with_reducible rfl)) | (rw [decide_eq_true] <;> (first | omega | with_reducible rfl)) | (simp; done) | (simp; omega)) ?_)
       | refine z_guard1 (by decide) rfl rfl (fun hc => ?_) (fun hc => ?_)
       | refine z_guardb (by decide) rfl rfl (fun hc => ?_) (fun hc => ?_))
       | (refine z_isg0 ?_; first
       | refine z_skipu (by decide) rfl rfl ?_
       | (refine z_want0 rfl rfl (by first | with_reducible rfl | with_reducible assumption | ((with_reducible refine decide_eq_false ?_); first | with_reducible assumption | omega)) ?_)
       | (refine z_skip0 (by decide) rfl rfl (by first | with_reducible rfl | with_reducible assumption | ((with_reducible refine decide_eq_true ?_); first | with_reducible rfl | with_reducible assumption | omega)) ?_)
       | (refine z_want0 rfl rfl (by first | (simp only [Bool.not_eq_false', decide_eq_true_eq]; omega) | (with_reducible assumption) | (rw [decide_eq_false] <;> (first | omega | with_reducible rfl)) | (rw [decide_eq_true] <;> (first | omega | with_reducible rfl)) | (simp; done) | (simp; omega)) ?_)
       | (refine z_skip0 (by decide) rfl rfl (by first | (simp only [Bool.not_eq_true', decide_eq_false_iff_not]; omega) | (with_reducible assumption) | (rw [decide_eq_false] <;> (first | omega | with_reducible rfl)) | (rw [decide_eq_true] <;> (first | omega | with_reducible rfl)) | (simp; done) | (simp; omega)) ?_)
       | refine z_guard0 (by decide) rfl rfl (fun hc => ?_) (fun hc => ?_)
       | refine z_guardb (by decide) rfl rfl (fun hc => ?_) (fun hc => ?_))
       | (refine z_isnil ?_; first
       | refine z_list ?_
       | refine z_mixed ?_
       | refine z_mono0 ?_
       | refine z_mono1 (by decide) fun g => ?_
       | refine z_mono2 (by decide) (by decide) fun g g' => ?_
       | refine z_mixedx ?_
       | refine z_quiet ?_)
       | (refine z_isop ?_; first
       | refine o_indexm tabOk rfl rfl rfl rfl (by omega) (by omega) (by decide) ?_
       | refine o_build0 (t := 102) (v := .agg Pe.zero.cs.toArray) (fun _ => by kernel_rfl) (by decide) ?_
       | refine o_build0 (t := 66) (v := .agg Pe.zero.cs.toArray) (fun _ => by kernel_rfl) (by decide) ?_
       | refine o_alloca (e := 102) (vs := Pe.zero.cs) rfl (by kernel_rfl) (by decide) fun g => ?_
       | refine o_alloca (e := 66) (vs := Pe.zero.cs) rfl (by kernel_rfl) (by decide) fun g => ?_
       | refine o_boxa rfl rfl (by decide) fun g => ?_
       | (refine z_isbin ?_; first
       | (refine z_isb .add ?_; first
       | refine o_add rfl rfl (by omega) (by omega) (by decide) ?_
       | refine o_addw rfl rfl (by decide) ?_)
       | (refine z_isb .eql ?_; first
       | refine o_eq rfl rfl (by decide) ?_
       | refine o_beq tabOk rfl rfl rfl (by decide) ?_
       | refine o_peq tabOk rfl rfl (by decide) ?_)
       | (refine z_isb .neq ?_; first
       | refine o_ne rfl rfl (by decide) ?_
       | refine o_bne tabOk rfl rfl rfl (by decide) ?_
       | refine o_pne tabOk rfl rfl (by decide) ?_)
       | (refine z_isb .lss ?_; first
       | refine o_lt rfl rfl (by decide) ?_)
       | (refine z_isb .leq ?_; first
       | refine o_le rfl rfl (by decide) ?_))
       | (refine z_isload ?_; first
       | refine o_loadp tabOk rfl rfl rfl 0 rfl (pe_len _) (tcs_el _ (by omega)) (by decide) ?_
       | refine o_loadp tabOk rfl rfl rfl 1 rfl (pe_len _) (tcs_el _ (by omega)) (by decide) ?_
       | (refine z_ld1 tabOk rfl rfl ?_; first
       | refine o_loadm tabOk rfl rfl rfl (by repeat' (first | exact List.mem_cons_self | apply List.mem_cons_of_mem)) (by first | exact tcs_s _ (by omega) | exact tcs_p _ (by omega) | exact tcs_u _ (by omega) | exact dd_k _ | exact dd_n _ | exact dd_u _ | rfl) (by decide) ?_
       | refine o_loads tabOk (by first | assumption | exact Rds.cons _ (by assumption) | exact Rds.cons _ (Rds.cons _ (by assumption)) | exact own_rds 0 rfl | exact own_rds 1 rfl | exact own_rds 2 rfl) rfl rfl rfl (by first | exact tcs_s _ (by omega) | exact tcs_p _ (by omega) | exact tcs_u _ (by omega) | exact dd_k _ | exact dd_n _ | exact dd_u _ | rfl) (by decide) ?_)
       | (refine z_ldw tabOk rfl rfl ?_; first
       | refine o_loadwm tabOk rfl rfl rfl (by repeat' (first | exact List.mem_cons_self | apply List.mem_cons_of_mem)) (by first | exact dd_len _ | (simp only [dd_len]) | rfl) (by decide) ?_))
       | (refine z_iscall ?_; first
       | ((refine z_iscallf 54 ?_; refine o_callr rfl Try.func54 rfl rfl rfl (in_c _ _ _ _ (by first | exact cells_rds 0 rfl | exact cells_rds 1 rfl | exact cells_rds 2 rfl)) (by decide) ?_))
       | ((refine z_iscallf 57 ?_; refine o_callr rfl Try.func57 rfl rfl rfl (ralive_c _ _ _ _ (by first | exact cells_rds 0 rfl | exact cells_rds 1 rfl | exact cells_rds 2 rfl)) (by decide) ?_))
       | ((refine z_iscallf 32 ?_; refine o_fn rfl Try.func32 rfl rfl rfl (awake_p) (by decide) ?_))
       | ((refine z_iscallf 25 ?_; refine o_calla Try.func25 rfl rfl rfl (new_c _) (by decide) fun g1 _ => ?_))
       | ((refine z_iscallf 26 ?_; refine o_calla Try.func26 rfl rfl rfl (rnew_c _) (by decide) fun g2 _ => ?_))
       | ((refine z_iscallf 28 ?_; refine o_callr rfl Try.func28 rfl rfl rfl (alive_c _ _ _ _ (cells_rds 0 rfl)) (by decide) ?_))
       | ((refine z_iscallf 29 ?_; refine o_callr rfl Try.func29 rfl rfl rfl (status_c _ _ _ _ (cells_rds 0 rfl)) (by decide) ?_))
       | ((refine z_iscallf 30 ?_; refine o_callr rfl Try.func30 rfl rfl rfl (parent_c _ _ _ _ (cells_rds 0 rfl)) (by decide) ?_))
       | ((refine z_iscallf 31 ?_; refine o_call Try.func31 rfl rfl rfl (wait_c _ _ _) (List.Perm.refl _) (by decide) fun _ _ => ?_)))
       | (refine z_ispick ?_; first
       | (refine o_pick1 rfl (by first | with_reducible rfl | with_reducible assumption | ((with_reducible refine decide_eq_true ?_); first | with_reducible rfl | with_reducible assumption | omega)) rfl (by decide) ?_)
       | (refine o_pick0 rfl (by first | with_reducible rfl | with_reducible assumption | ((with_reducible refine decide_eq_false ?_); first | with_reducible assumption | omega)) rfl (by decide) ?_)
       | (refine o_pick1 rfl (by first | (simp only [Bool.not_eq_true', decide_eq_false_iff_not]; omega) | (with_reducible assumption) | (rw [decide_eq_false] <;> (first | omega | with_reducible rfl)) | (rw [decide_eq_true] <;> (first | omega | with_reducible rfl)) | (simp; done) | (simp; omega)) rfl (by decide) ?_)
       | (refine o_pick0 rfl (by first | (simp only [Bool.not_eq_false', decide_eq_true_eq]; omega) | (with_reducible assumption) | (rw [decide_eq_false] <;> (first | omega | with_reducible rfl)) | (rw [decide_eq_true] <;> (first | omega | with_reducible rfl)) | (simp; done) | (simp; omega)) rfl (by decide) ?_))
       | (refine z_isix ?_; first
       | refine o_index0 tabOk rfl rfl rfl rfl (by omega) (by omega) (by decide) ?_
       | refine o_index1 tabOk rfl rfl rfl rfl (by omega) (by omega) (by decide) ?_
       | refine o_indexsk1 tabOk rfl rfl rfl rfl (by omega) (by omega) (by decide) ?_
       | refine o_indexsk tabOk rfl rfl rfl rfl (by omega) (by omega) (by decide) ?_
       | refine o_indexs1 tabOk (by first | assumption) rfl rfl rfl rfl (by omega) (by omega) (by decide) ?_)
       | (refine z_isbi ?_; first
       | refine o_len tabOk rfl rfl (by decide) ?_
       | refine o_min rfl rfl (by decide) ?_
       | refine o_max rfl rfl (by decide) ?_)
       | refine o_move rfl (by decide) ?_
       | refine o_assign rfl (by decide) ?_
       | refine o_nil rfl (by decide) ?_
       | refine o_extract rfl rfl (by decide) ?_
       | refine o_not rfl (by decide) ?_
       | refine o_field0 tabOk rfl rfl rfl rfl rfl (by decide) ?_
       | refine o_field tabOk rfl rfl rfl rfl rfl (by decide) ?_
       | refine o_conv tabOk rfl rfl rfl (by decide) ?_))
      refine Hold.go ?_
      have hn8 : (n : Int) < 8 := by omega
      rcases wait_two f with ⟨hA, hB, hC⟩ | ⟨hA, hB, hC, hD⟩
      · skip
        repeat' (first
         | (refine s_is ?_; first
         | (refine s_isret ?_; first
         | exact f_r1 rfl (res_t rfl) () trivial (by first | rfl | simp [hA, hB]) (fun w h => ((h.sel 3 [2, 0, 1] (by decide)).mask [true, false, false])))
         | (refine s_isw ?_; first
         | refine c_seq ?_
         | refine c_block ?_
         | refine c_region ?_
         | refine c_mixed mixed (by kernel_rfl) ?_
         | refine c_skip ?_
         | refine c_ret ?_
         | refine c_exit ?_
         | (refine s_iscond ?_; first
         | (refine c_true rfl (by first | with_reducible rfl | with_reducible assumption | ((with_reducible refine decide_eq_true ?_); first | with_reducible rfl | with_reducible assumption | omega)) ?_)
         | (refine c_false rfl (by first | with_reducible rfl | with_reducible assumption | ((with_reducible refine decide_eq_false ?_); first | with_reducible assumption | omega)) ?_)
         | (refine c_true rfl (by first | (simp only [Bool.not_eq_true', decide_eq_false_iff_not]; omega) | (with_reducible assumption) | (rw [decide_eq_false] <;> (first | omega | with_reducible rfl)) | (rw [decide_eq_true] <;> (first | omega | with_reducible rfl)) | (simp; done) | (simp; omega)) ?_)
         | (refine c_false rfl (by first | (simp only [Bool.not_eq_false', decide_eq_true_eq]; omega) | (with_reducible assumption) | (rw [decide_eq_false] <;> (first | omega | with_reducible rfl)) | (rw [decide_eq_true] <;> (first | omega | with_reducible rfl)) | (simp; done) | (simp; omega)) ?_)
         | refine c_cond rfl (fun hc => ?_) (fun hc => ?_)
         | refine c_condb rfl (fun hc => ?_) (fun hc => ?_)))
         | refine x_then ?_
         | refine x_then_ret ?_
         | refine x_then_exit ?_
         | refine x_block _ ?_
         | refine x_block_ret _ ?_
         | refine x_block_exit _ ?_
         | refine x_block_past (by decide) ?_
         | refine z_tailm ?_)
         | (refine z_isg1 ?_; first
         | refine z_skipu (by decide) rfl rfl ?_
         | (refine z_want1 rfl rfl (by first | with_reducible rfl | with_reducible assumption | ((with_reducible refine decide_eq_true ?_); first | with_reducible rfl | with_reducible assumption | omega)) ?_)
         | (refine z_skip1 (by decide) rfl rfl (by first | with_reducible rfl | with_reducible assumption | ((with_reducible refine decide_eq_false ?_); first | with_reducible assumption | omega)) ?_)
         | (refine z_want1 rfl rfl (by first | (simp only [Bool.not_eq_true', decide_eq_false_iff_not]; omega) | (with_reducible assumption) | (rw [decide_eq_false] <;> (first | omega | with_reducible rfl)) | (rw [decide_eq_true] <;> (first | omega | with_reducible rfl)) | (simp; done) | (simp; omega)) ?_)
         | (refine z_skip1 (by decide) rfl rfl (by first | (simp only [Bool.not_eq_false', decide_eq_true_eq]; omega) | (with_reducible assumption) | (rw [decide_eq_false] <;> (first | omega | with_reducible rfl)) | (rw [decide_eq_true] <;> (first | omega | with_reducible rfl)) | (simp; done) | (simp; omega)) ?_)
         | refine z_guard1 (by decide) rfl rfl (fun hc => ?_) (fun hc => ?_)
         | refine z_guardb (by decide) rfl rfl (fun hc => ?_) (fun hc => ?_))
         | (refine z_isg0 ?_; first
         | refine z_skipu (by decide) rfl rfl ?_
         | (refine z_want0 rfl rfl (by first | with_reducible rfl | with_reducible assumption | ((with_reducible refine decide_eq_false ?_); first | with_reducible assumption | omega)) ?_)
         | (refine z_skip0 (by decide) rfl rfl (by first | with_reducible rfl | with_reducible assumption | ((with_reducible refine decide_eq_true ?_); first | with_reducible rfl | with_reducible assumption | omega)) ?_)
         | (refine z_want0 rfl rfl (by first | (simp only [Bool.not_eq_false', decide_eq_true_eq]; omega) | (with_reducible assumption) | (rw [decide_eq_false] <;> (first | omega | with_reducible rfl)) | (rw [decide_eq_true] <;> (first | omega | with_reducible rfl)) | (simp; done) | (simp; omega)) ?_)
         | (refine z_skip0 (by decide) rfl rfl (by first | (simp only [Bool.not_eq_true', decide_eq_false_iff_not]; omega) | (with_reducible assumption) | (rw [decide_eq_false] <;> (first | omega | with_reducible rfl)) | (rw [decide_eq_true] <;> (first | omega | with_reducible rfl)) | (simp; done) | (simp; omega)) ?_)
         | refine z_guard0 (by decide) rfl rfl (fun hc => ?_) (fun hc => ?_)
         | refine z_guardb (by decide) rfl rfl (fun hc => ?_) (fun hc => ?_))
         | (refine z_isnil ?_; first
         | refine z_list ?_
         | refine z_mixed ?_
         | refine z_mono0 ?_
         | refine z_mono1 (by decide) fun g => ?_
         | refine z_mono2 (by decide) (by decide) fun g g' => ?_
         | refine z_mixedx ?_
         | refine z_quiet ?_)
         | (refine z_isop ?_; first
         | refine o_indexm tabOk rfl rfl rfl rfl (by omega) (by omega) (by decide) ?_
         | refine o_build0 (t := 102) (v := .agg Pe.zero.cs.toArray) (fun _ => by kernel_rfl) (by decide) ?_
         | refine o_build0 (t := 66) (v := .agg Pe.zero.cs.toArray) (fun _ => by kernel_rfl) (by decide) ?_
         | refine o_alloca (e := 102) (vs := Pe.zero.cs) rfl (by kernel_rfl) (by decide) fun g => ?_
         | refine o_alloca (e := 66) (vs := Pe.zero.cs) rfl (by kernel_rfl) (by decide) fun g => ?_
         | refine o_boxa rfl rfl (by decide) fun g => ?_
         | (refine z_isbin ?_; first
         | (refine z_isb .add ?_; first
         | refine o_add rfl rfl (by omega) (by omega) (by decide) ?_
         | refine o_addw rfl rfl (by decide) ?_)
         | (refine z_isb .eql ?_; first
         | refine o_eq rfl rfl (by decide) ?_
         | refine o_beq tabOk rfl rfl rfl (by decide) ?_
         | refine o_peq tabOk rfl rfl (by decide) ?_)
         | (refine z_isb .neq ?_; first
         | refine o_ne rfl rfl (by decide) ?_
         | refine o_bne tabOk rfl rfl rfl (by decide) ?_
         | refine o_pne tabOk rfl rfl (by decide) ?_)
         | (refine z_isb .lss ?_; first
         | refine o_lt rfl rfl (by decide) ?_)
         | (refine z_isb .leq ?_; first
         | refine o_le rfl rfl (by decide) ?_))
         | (refine z_isload ?_; first
         | refine o_loadp tabOk rfl rfl rfl 0 rfl (pe_len _) (tcs_el _ (by omega)) (by decide) ?_
         | refine o_loadp tabOk rfl rfl rfl 1 rfl (pe_len _) (tcs_el _ (by omega)) (by decide) ?_
         | (refine z_ld1 tabOk rfl rfl ?_; first
         | refine o_loadm tabOk rfl rfl rfl (by repeat' (first | exact List.mem_cons_self | apply List.mem_cons_of_mem)) (by first | exact tcs_s _ (by omega) | exact tcs_p _ (by omega) | exact tcs_u _ (by omega) | exact dd_k _ | exact dd_n _ | exact dd_u _ | rfl) (by decide) ?_
         | refine o_loads tabOk (by first | assumption | exact Rds.cons _ (by assumption) | exact Rds.cons _ (Rds.cons _ (by assumption)) | exact own_rds 0 rfl | exact own_rds 1 rfl | exact own_rds 2 rfl) rfl rfl rfl (by first | exact tcs_s _ (by omega) | exact tcs_p _ (by omega) | exact tcs_u _ (by omega) | exact dd_k _ | exact dd_n _ | exact dd_u _ | rfl) (by decide) ?_)
         | (refine z_ldw tabOk rfl rfl ?_; first
         | refine o_loadwm tabOk rfl rfl rfl (by repeat' (first | exact List.mem_cons_self | apply List.mem_cons_of_mem)) (by first | exact dd_len _ | (simp only [dd_len]) | rfl) (by decide) ?_))
         | (refine z_iscall ?_; first
         | ((refine z_iscallf 54 ?_; refine o_callr rfl Try.func54 rfl rfl rfl (in_c _ _ _ _ (by first | exact cells_rds 0 rfl | exact cells_rds 1 rfl | exact cells_rds 2 rfl)) (by decide) ?_))
         | ((refine z_iscallf 57 ?_; refine o_callr rfl Try.func57 rfl rfl rfl (ralive_c _ _ _ _ (by first | exact cells_rds 0 rfl | exact cells_rds 1 rfl | exact cells_rds 2 rfl)) (by decide) ?_))
         | ((refine z_iscallf 32 ?_; refine o_fn rfl Try.func32 rfl rfl rfl (awake_p) (by decide) ?_))
         | ((refine z_iscallf 25 ?_; refine o_calla Try.func25 rfl rfl rfl (new_c _) (by decide) fun g1 _ => ?_))
         | ((refine z_iscallf 26 ?_; refine o_calla Try.func26 rfl rfl rfl (rnew_c _) (by decide) fun g2 _ => ?_))
         | ((refine z_iscallf 28 ?_; refine o_callr rfl Try.func28 rfl rfl rfl (alive_c _ _ _ _ (cells_rds 0 rfl)) (by decide) ?_))
         | ((refine z_iscallf 29 ?_; refine o_callr rfl Try.func29 rfl rfl rfl (status_c _ _ _ _ (cells_rds 0 rfl)) (by decide) ?_))
         | ((refine z_iscallf 30 ?_; refine o_callr rfl Try.func30 rfl rfl rfl (parent_c _ _ _ _ (cells_rds 0 rfl)) (by decide) ?_))
         | ((refine z_iscallf 31 ?_; refine o_call Try.func31 rfl rfl rfl (wait_c _ _ _) (List.Perm.refl _) (by decide) fun _ _ => ?_)))
         | (refine z_ispick ?_; first
         | (refine o_pick1 rfl (by first | with_reducible rfl | with_reducible assumption | ((with_reducible refine decide_eq_true ?_); first | with_reducible rfl | with_reducible assumption | omega)) rfl (by decide) ?_)
         | (refine o_pick0 rfl (by first | with_reducible rfl | with_reducible assumption | ((with_reducible refine decide_eq_false ?_); first | with_reducible assumption | omega)) rfl (by decide) ?_)
         | (refine o_pick1 rfl (by first | (simp only [Bool.not_eq_true', decide_eq_false_iff_not]; omega) | (with_reducible assumption) | (rw [decide_eq_false] <;> (first | omega | with_reducible rfl)) | (rw [decide_eq_true] <;> (first | omega | with_reducible rfl)) | (simp; done) | (simp; omega)) rfl (by decide) ?_)
         | (refine o_pick0 rfl (by first | (simp only [Bool.not_eq_false', decide_eq_true_eq]; omega) | (with_reducible assumption) | (rw [decide_eq_false] <;> (first | omega | with_reducible rfl)) | (rw [decide_eq_true] <;> (first | omega | with_reducible rfl)) | (simp; done) | (simp; omega)) rfl (by decide) ?_))
         | (refine z_isix ?_; first
         | refine o_index0 tabOk rfl rfl rfl rfl (by omega) (by omega) (by decide) ?_
         | refine o_index1 tabOk rfl rfl rfl rfl (by omega) (by omega) (by decide) ?_
         | refine o_indexsk1 tabOk rfl rfl rfl rfl (by omega) (by omega) (by decide) ?_
         | refine o_indexsk tabOk rfl rfl rfl rfl (by omega) (by omega) (by decide) ?_
         | refine o_indexs1 tabOk (by first | assumption) rfl rfl rfl rfl (by omega) (by omega) (by decide) ?_)
         | (refine z_isbi ?_; first
         | refine o_len tabOk rfl rfl (by decide) ?_
         | refine o_min rfl rfl (by decide) ?_
         | refine o_max rfl rfl (by decide) ?_)
         | refine o_move rfl (by decide) ?_
         | refine o_assign rfl (by decide) ?_
         | refine o_nil rfl (by decide) ?_
         | refine o_extract rfl rfl (by decide) ?_
         | refine o_not rfl (by decide) ?_
         | refine o_field0 tabOk rfl rfl rfl rfl rfl (by decide) ?_
         | refine o_field tabOk rfl rfl rfl rfl rfl (by decide) ?_
         | refine o_conv tabOk rfl rfl rfl (by decide) ?_))
      · skip
        repeat' (first
         | (refine s_is ?_; first
         | (refine s_isagain ?_; first
         | (exact c_again (n + 1, (wait f 1).e) (by dsimp only; omega) (by dsimp only; omega) ⟨rfl, rfl, trivial⟩ (fun w h => h)))
         | (refine s_isw ?_; first
         | refine c_seq ?_
         | refine c_block ?_
         | refine c_region ?_
         | refine c_mixed mixed (by kernel_rfl) ?_
         | refine c_skip ?_
         | refine c_ret ?_
         | refine c_exit ?_
         | (refine s_iscond ?_; first
         | (refine c_true rfl (by first | with_reducible rfl | with_reducible assumption | ((with_reducible refine decide_eq_true ?_); first | with_reducible rfl | with_reducible assumption | omega)) ?_)
         | (refine c_false rfl (by first | with_reducible rfl | with_reducible assumption | ((with_reducible refine decide_eq_false ?_); first | with_reducible assumption | omega)) ?_)
         | (refine c_true rfl (by first | (simp only [Bool.not_eq_true', decide_eq_false_iff_not]; omega) | (with_reducible assumption) | (rw [decide_eq_false] <;> (first | omega | with_reducible rfl)) | (rw [decide_eq_true] <;> (first | omega | with_reducible rfl)) | (simp; done) | (simp; omega)) ?_)
         | (refine c_false rfl (by first | (simp only [Bool.not_eq_false', decide_eq_true_eq]; omega) | (with_reducible assumption) | (rw [decide_eq_false] <;> (first | omega | with_reducible rfl)) | (rw [decide_eq_true] <;> (first | omega | with_reducible rfl)) | (simp; done) | (simp; omega)) ?_)
         | refine c_cond rfl (fun hc => ?_) (fun hc => ?_)
         | refine c_condb rfl (fun hc => ?_) (fun hc => ?_)))
         | refine x_then ?_
         | refine x_then_ret ?_
         | refine x_then_exit ?_
         | refine x_block _ ?_
         | refine x_block_ret _ ?_
         | refine x_block_exit _ ?_
         | refine x_block_past (by decide) ?_
         | refine z_tailm ?_)
         | (refine z_isg1 ?_; first
         | refine z_skipu (by decide) rfl rfl ?_
         | (refine z_want1 rfl rfl (by first | with_reducible rfl | with_reducible assumption | ((with_reducible refine decide_eq_true ?_); first | with_reducible rfl | with_reducible assumption | omega)) ?_)
         | (refine z_skip1 (by decide) rfl rfl (by first | with_reducible rfl | with_reducible assumption | ((with_reducible refine decide_eq_false ?_); first | with_reducible assumption | omega)) ?_)
         | (refine z_want1 rfl rfl (by first | (simp only [Bool.not_eq_true', decide_eq_false_iff_not]; omega) | (with_reducible assumption) | (rw [decide_eq_false] <;> (first | omega | with_reducible rfl)) | (rw [decide_eq_true] <;> (first | omega | with_reducible rfl)) | (simp; done) | (simp; omega)) ?_)
         | (refine z_skip1 (by decide) rfl rfl (by first | (simp only [Bool.not_eq_false', decide_eq_true_eq]; omega) | (with_reducible assumption) | (rw [decide_eq_false] <;> (first | omega | with_reducible rfl)) | (rw [decide_eq_true] <;> (first | omega | with_reducible rfl)) | (simp; done) | (simp; omega)) ?_)
         | refine z_guard1 (by decide) rfl rfl (fun hc => ?_) (fun hc => ?_)
         | refine z_guardb (by decide) rfl rfl (fun hc => ?_) (fun hc => ?_))
         | (refine z_isg0 ?_; first
         | refine z_skipu (by decide) rfl rfl ?_
         | (refine z_want0 rfl rfl (by first | with_reducible rfl | with_reducible assumption | ((with_reducible refine decide_eq_false ?_); first | with_reducible assumption | omega)) ?_)
         | (refine z_skip0 (by decide) rfl rfl (by first | with_reducible rfl | with_reducible assumption | ((with_reducible refine decide_eq_true ?_); first | with_reducible rfl | with_reducible assumption | omega)) ?_)
         | (refine z_want0 rfl rfl (by first | (simp only [Bool.not_eq_false', decide_eq_true_eq]; omega) | (with_reducible assumption) | (rw [decide_eq_false] <;> (first | omega | with_reducible rfl)) | (rw [decide_eq_true] <;> (first | omega | with_reducible rfl)) | (simp; done) | (simp; omega)) ?_)
         | (refine z_skip0 (by decide) rfl rfl (by first | (simp only [Bool.not_eq_true', decide_eq_false_iff_not]; omega) | (with_reducible assumption) | (rw [decide_eq_false] <;> (first | omega | with_reducible rfl)) | (rw [decide_eq_true] <;> (first | omega | with_reducible rfl)) | (simp; done) | (simp; omega)) ?_)
         | refine z_guard0 (by decide) rfl rfl (fun hc => ?_) (fun hc => ?_)
         | refine z_guardb (by decide) rfl rfl (fun hc => ?_) (fun hc => ?_))
         | (refine z_isnil ?_; first
         | refine z_list ?_
         | refine z_mixed ?_
         | refine z_mono0 ?_
         | refine z_mono1 (by decide) fun g => ?_
         | refine z_mono2 (by decide) (by decide) fun g g' => ?_
         | refine z_mixedx ?_
         | refine z_quiet ?_)
         | (refine z_isop ?_; first
         | refine o_indexm tabOk rfl rfl rfl rfl (by omega) (by omega) (by decide) ?_
         | refine o_build0 (t := 102) (v := .agg Pe.zero.cs.toArray) (fun _ => by kernel_rfl) (by decide) ?_
         | refine o_build0 (t := 66) (v := .agg Pe.zero.cs.toArray) (fun _ => by kernel_rfl) (by decide) ?_
         | refine o_alloca (e := 102) (vs := Pe.zero.cs) rfl (by kernel_rfl) (by decide) fun g => ?_
         | refine o_alloca (e := 66) (vs := Pe.zero.cs) rfl (by kernel_rfl) (by decide) fun g => ?_
         | refine o_boxa rfl rfl (by decide) fun g => ?_
         | (refine z_isbin ?_; first
         | (refine z_isb .add ?_; first
         | refine o_add rfl rfl (by omega) (by omega) (by decide) ?_
         | refine o_addw rfl rfl (by decide) ?_)
         | (refine z_isb .eql ?_; first
         | refine o_eq rfl rfl (by decide) ?_
         | refine o_beq tabOk rfl rfl rfl (by decide) ?_
         | refine o_peq tabOk rfl rfl (by decide) ?_)
         | (refine z_isb .neq ?_; first
         | refine o_ne rfl rfl (by decide) ?_
         | refine o_bne tabOk rfl rfl rfl (by decide) ?_
         | refine o_pne tabOk rfl rfl (by decide) ?_)
         | (refine z_isb .lss ?_; first
         | refine o_lt rfl rfl (by decide) ?_)
         | (refine z_isb .leq ?_; first
         | refine o_le rfl rfl (by decide) ?_))
         | (refine z_isload ?_; first
         | refine o_loadp tabOk rfl rfl rfl 0 rfl (pe_len _) (tcs_el _ (by omega)) (by decide) ?_
         | refine o_loadp tabOk rfl rfl rfl 1 rfl (pe_len _) (tcs_el _ (by omega)) (by decide) ?_
         | (refine z_ld1 tabOk rfl rfl ?_; first
         | refine o_loadm tabOk rfl rfl rfl (by repeat' (first | exact List.mem_cons_self | apply List.mem_cons_of_mem)) (by first | exact tcs_s _ (by omega) | exact tcs_p _ (by omega) | exact tcs_u _ (by omega) | exact dd_k _ | exact dd_n _ | exact dd_u _ | rfl) (by decide) ?_
         | refine o_loads tabOk (by first | assumption | exact Rds.cons _ (by assumption) | exact Rds.cons _ (Rds.cons _ (by assumption)) | exact own_rds 0 rfl | exact own_rds 1 rfl | exact own_rds 2 rfl) rfl rfl rfl (by first | exact tcs_s _ (by omega) | exact tcs_p _ (by omega) | exact tcs_u _ (by omega) | exact dd_k _ | exact dd_n _ | exact dd_u _ | rfl) (by decide) ?_)
         | (refine z_ldw tabOk rfl rfl ?_; first
         | refine o_loadwm tabOk rfl rfl rfl (by repeat' (first | exact List.mem_cons_self | apply List.mem_cons_of_mem)) (by first | exact dd_len _ | (simp only [dd_len]) | rfl) (by decide) ?_))
         | (refine z_iscall ?_; first
         | ((refine z_iscallf 54 ?_; refine o_callr rfl Try.func54 rfl rfl rfl (in_c _ _ _ _ (by first | exact cells_rds 0 rfl | exact cells_rds 1 rfl | exact cells_rds 2 rfl)) (by decide) ?_))
         | ((refine z_iscallf 57 ?_; refine o_callr rfl Try.func57 rfl rfl rfl (ralive_c _ _ _ _ (by first | exact cells_rds 0 rfl | exact cells_rds 1 rfl | exact cells_rds 2 rfl)) (by decide) ?_))
         | ((refine z_iscallf 32 ?_; refine o_fn rfl Try.func32 rfl rfl rfl (awake_p) (by decide) ?_))
         | ((refine z_iscallf 25 ?_; refine o_calla Try.func25 rfl rfl rfl (new_c _) (by decide) fun g1 _ => ?_))
         | ((refine z_iscallf 26 ?_; refine o_calla Try.func26 rfl rfl rfl (rnew_c _) (by decide) fun g2 _ => ?_))
         | ((refine z_iscallf 28 ?_; refine o_callr rfl Try.func28 rfl rfl rfl (alive_c _ _ _ _ (cells_rds 0 rfl)) (by decide) ?_))
         | ((refine z_iscallf 29 ?_; refine o_callr rfl Try.func29 rfl rfl rfl (status_c _ _ _ _ (cells_rds 0 rfl)) (by decide) ?_))
         | ((refine z_iscallf 30 ?_; refine o_callr rfl Try.func30 rfl rfl rfl (parent_c _ _ _ _ (cells_rds 0 rfl)) (by decide) ?_))
         | ((refine z_iscallf 31 ?_; refine o_call Try.func31 rfl rfl rfl (wait_c _ _ _) (List.Perm.refl _) (by decide) fun _ _ => ?_)))
         | (refine z_ispick ?_; first
         | (refine o_pick1 rfl (by first | with_reducible rfl | with_reducible assumption | ((with_reducible refine decide_eq_true ?_); first | with_reducible rfl | with_reducible assumption | omega)) rfl (by decide) ?_)
         | (refine o_pick0 rfl (by first | with_reducible rfl | with_reducible assumption | ((with_reducible refine decide_eq_false ?_); first | with_reducible assumption | omega)) rfl (by decide) ?_)
         | (refine o_pick1 rfl (by first | (simp only [Bool.not_eq_true', decide_eq_false_iff_not]; omega) | (with_reducible assumption) | (rw [decide_eq_false] <;> (first | omega | with_reducible rfl)) | (rw [decide_eq_true] <;> (first | omega | with_reducible rfl)) | (simp; done) | (simp; omega)) rfl (by decide) ?_)
         | (refine o_pick0 rfl (by first | (simp only [Bool.not_eq_false', decide_eq_true_eq]; omega) | (with_reducible assumption) | (rw [decide_eq_false] <;> (first | omega | with_reducible rfl)) | (rw [decide_eq_true] <;> (first | omega | with_reducible rfl)) | (simp; done) | (simp; omega)) rfl (by decide) ?_))
         | (refine z_isix ?_; first
         | refine o_index0 tabOk rfl rfl rfl rfl (by omega) (by omega) (by decide) ?_
         | refine o_index1 tabOk rfl rfl rfl rfl (by omega) (by omega) (by decide) ?_
         | refine o_indexsk1 tabOk rfl rfl rfl rfl (by omega) (by omega) (by decide) ?_
         | refine o_indexsk tabOk rfl rfl rfl rfl (by omega) (by omega) (by decide) ?_
         | refine o_indexs1 tabOk (by first | assumption) rfl rfl rfl rfl (by omega) (by omega) (by decide) ?_)
         | (refine z_isbi ?_; first
         | refine o_len tabOk rfl rfl (by decide) ?_
         | refine o_min rfl rfl (by decide) ?_
         | refine o_max rfl rfl (by decide) ?_)
         | refine o_move rfl (by decide) ?_
         | refine o_assign rfl (by decide) ?_
         | refine o_nil rfl (by decide) ?_
         | refine o_extract rfl rfl (by decide) ?_
         | refine o_not rfl (by decide) ?_
         | refine o_field0 tabOk rfl rfl rfl rfl rfl (by decide) ?_
         | refine o_field tabOk rfl rfl rfl rfl rfl (by decide) ?_
         | refine o_conv tabOk rfl rfl rfl (by decide) ?_))
  · skip
    repeat' (first
     | (refine s_is ?_; first
     | (refine s_isw ?_; first
     | (refine s_isloop ?_; first
     | ((refine c_loop (X := Nat × Tb) (fun y => y.1 + cntF y.2 7 ≤ 7) (fun y => [(3, .pointer (some ⟨g1, 0, none⟩)), (9, .int .i64 y.1)]) (fun y => [cells g1 105 (tcs y.2), cells g2 69 (tcs e), old W]) (fun y => 8 - y.1) (0, e) (by dsimp only; have := cntF_le e 7; omega) ⟨rfl, rfl, trivial⟩ (fun w h => h) (fun y hy => ?_); obtain ⟨n, f⟩ := y; dsimp only at hy ⊢; refine hold ?_)))
     | refine c_seq ?_
     | refine c_block ?_
     | refine c_region ?_
     | refine c_mixed mixed (by kernel_rfl) ?_
     | refine c_skip ?_
     | refine c_ret ?_
     | refine c_exit ?_
     | (refine s_iscond ?_; first
     | (refine c_true rfl (by first | with_reducible rfl | with_reducible assumption | ((with_reducible refine decide_eq_true ?_); first | with_reducible rfl | with_reducible assumption | omega)) ?_)
     | (refine c_false rfl (by first | with_reducible rfl | with_reducible assumption | ((with_reducible refine decide_eq_false ?_); first | with_reducible assumption | omega)) ?_)
     | (refine c_true rfl (by first | (simp only [Bool.not_eq_true', decide_eq_false_iff_not]; omega) | (with_reducible assumption) | (rw [decide_eq_false] <;> (first | omega | with_reducible rfl)) | (rw [decide_eq_true] <;> (first | omega | with_reducible rfl)) | (simp; done) | (simp; omega)) ?_)
     | (refine c_false rfl (by first | (simp only [Bool.not_eq_false', decide_eq_true_eq]; omega) | (with_reducible assumption) | (rw [decide_eq_false] <;> (first | omega | with_reducible rfl)) | (rw [decide_eq_true] <;> (first | omega | with_reducible rfl)) | (simp; done) | (simp; omega)) ?_)
     | refine c_cond rfl (fun hc => ?_) (fun hc => ?_)
     | refine c_condb rfl (fun hc => ?_) (fun hc => ?_)))
     | refine x_then ?_
     | refine x_then_ret ?_
     | refine x_then_exit ?_
     | refine x_block _ ?_
     | refine x_block_ret _ ?_
     | refine x_block_exit _ ?_
     | refine x_block_past (by decide) ?_
     | refine z_tailm ?_)
     | (refine z_isg1 ?_; first
     | refine z_skipu (by decide) rfl rfl ?_
     | (refine z_want1 rfl rfl (by first | with_reducible rfl | with_reducible assumption | ((with_reducible refine decide_eq_true ?_); first | with_reducible rfl | with_reducible assumption | omega)) ?_)
     | (refine z_skip1 (by decide) rfl rfl (by first | with_reducible rfl | with_reducible assumption | ((with_reducible refine decide_eq_false ?_); first | with_reducible assumption | omega)) ?_)
     | (refine z_want1 rfl rfl (by first | (simp only [Bool.not_eq_true', decide_eq_false_iff_not]; omega) | (with_reducible assumption) | (rw [decide_eq_false] <;> (first | omega | with_reducible rfl)) | (rw [decide_eq_true] <;> (first | omega | with_reducible rfl)) | (simp; done) | (simp; omega)) ?_)
     | (refine z_skip1 (by decide) rfl rfl (by first | (simp only [Bool.not_eq_false', decide_eq_true_eq]; omega) | (with_reducible assumption) | (rw [decide_eq_false] <;> (first | omega | with_reducible rfl)) | (rw [decide_eq_true] <;> (first | omega | with_reducible rfl)) | (simp; done) | (simp; omega)) ?_)
     | refine z_guard1 (by decide) rfl rfl (fun hc => ?_) (fun hc => ?_)
     | refine z_guardb (by decide) rfl rfl (fun hc => ?_) (fun hc => ?_))
     | (refine z_isg0 ?_; first
     | refine z_skipu (by decide) rfl rfl ?_
     | (refine z_want0 rfl rfl (by first | with_reducible rfl | with_reducible assumption | ((with_reducible refine decide_eq_false ?_); first | with_reducible assumption | omega)) ?_)
     | (refine z_skip0 (by decide) rfl rfl (by first | with_reducible rfl | with_reducible assumption | ((with_reducible refine decide_eq_true ?_); first | with_reducible rfl | with_reducible assumption | omega)) ?_)
     | (refine z_want0 rfl rfl (by first | (simp only [Bool.not_eq_false', decide_eq_true_eq]; omega) | (with_reducible assumption) | (rw [decide_eq_false] <;> (first | omega | with_reducible rfl)) | (rw [decide_eq_true] <;> (first | omega | with_reducible rfl)) | (simp; done) | (simp; omega)) ?_)
     | (refine z_skip0 (by decide) rfl rfl (by first | (simp only [Bool.not_eq_true', decide_eq_false_iff_not]; omega) | (with_reducible assumption) | (rw [decide_eq_false] <;> (first | omega | with_reducible rfl)) | (rw [decide_eq_true] <;> (first | omega | with_reducible rfl)) | (simp; done) | (simp; omega)) ?_)
     | refine z_guard0 (by decide) rfl rfl (fun hc => ?_) (fun hc => ?_)
     | refine z_guardb (by decide) rfl rfl (fun hc => ?_) (fun hc => ?_))
     | (refine z_isnil ?_; first
     | refine z_list ?_
     | refine z_mixed ?_
     | refine z_mono0 ?_
     | refine z_mono1 (by decide) fun g => ?_
     | refine z_mono2 (by decide) (by decide) fun g g' => ?_
     | refine z_mixedx ?_
     | refine z_quiet ?_)
     | (refine z_isop ?_; first
     | refine o_indexm tabOk rfl rfl rfl rfl (by omega) (by omega) (by decide) ?_
     | refine o_build0 (t := 102) (v := .agg Pe.zero.cs.toArray) (fun _ => by kernel_rfl) (by decide) ?_
     | refine o_build0 (t := 66) (v := .agg Pe.zero.cs.toArray) (fun _ => by kernel_rfl) (by decide) ?_
     | refine o_alloca (e := 102) (vs := Pe.zero.cs) rfl (by kernel_rfl) (by decide) fun g => ?_
     | refine o_alloca (e := 66) (vs := Pe.zero.cs) rfl (by kernel_rfl) (by decide) fun g => ?_
     | refine o_boxa rfl rfl (by decide) fun g => ?_
     | (refine z_isbin ?_; first
     | (refine z_isb .add ?_; first
     | refine o_add rfl rfl (by omega) (by omega) (by decide) ?_
     | refine o_addw rfl rfl (by decide) ?_)
     | (refine z_isb .eql ?_; first
     | refine o_eq rfl rfl (by decide) ?_
     | refine o_beq tabOk rfl rfl rfl (by decide) ?_
     | refine o_peq tabOk rfl rfl (by decide) ?_)
     | (refine z_isb .neq ?_; first
     | refine o_ne rfl rfl (by decide) ?_
     | refine o_bne tabOk rfl rfl rfl (by decide) ?_
     | refine o_pne tabOk rfl rfl (by decide) ?_)
     | (refine z_isb .lss ?_; first
     | refine o_lt rfl rfl (by decide) ?_)
     | (refine z_isb .leq ?_; first
     | refine o_le rfl rfl (by decide) ?_))
     | (refine z_isload ?_; first
     | refine o_loadp tabOk rfl rfl rfl 0 rfl (pe_len _) (tcs_el _ (by omega)) (by decide) ?_
     | refine o_loadp tabOk rfl rfl rfl 1 rfl (pe_len _) (tcs_el _ (by omega)) (by decide) ?_
     | (refine z_ld1 tabOk rfl rfl ?_; first
     | refine o_loadm tabOk rfl rfl rfl (by repeat' (first | exact List.mem_cons_self | apply List.mem_cons_of_mem)) (by first | exact tcs_s _ (by omega) | exact tcs_p _ (by omega) | exact tcs_u _ (by omega) | exact dd_k _ | exact dd_n _ | exact dd_u _ | rfl) (by decide) ?_
     | refine o_loads tabOk (by first | assumption | exact Rds.cons _ (by assumption) | exact Rds.cons _ (Rds.cons _ (by assumption)) | exact own_rds 0 rfl | exact own_rds 1 rfl | exact own_rds 2 rfl) rfl rfl rfl (by first | exact tcs_s _ (by omega) | exact tcs_p _ (by omega) | exact tcs_u _ (by omega) | exact dd_k _ | exact dd_n _ | exact dd_u _ | rfl) (by decide) ?_)
     | (refine z_ldw tabOk rfl rfl ?_; first
     | refine o_loadwm tabOk rfl rfl rfl (by repeat' (first | exact List.mem_cons_self | apply List.mem_cons_of_mem)) (by first | exact dd_len _ | (simp only [dd_len]) | rfl) (by decide) ?_))
     | (refine z_iscall ?_; first
     | ((refine z_iscallf 54 ?_; refine o_callr rfl Try.func54 rfl rfl rfl (in_c _ _ _ _ (by first | exact cells_rds 0 rfl | exact cells_rds 1 rfl | exact cells_rds 2 rfl)) (by decide) ?_))
     | ((refine z_iscallf 57 ?_; refine o_callr rfl Try.func57 rfl rfl rfl (ralive_c _ _ _ _ (by first | exact cells_rds 0 rfl | exact cells_rds 1 rfl | exact cells_rds 2 rfl)) (by decide) ?_))
     | ((refine z_iscallf 32 ?_; refine o_fn rfl Try.func32 rfl rfl rfl (awake_p) (by decide) ?_))
     | ((refine z_iscallf 25 ?_; refine o_calla Try.func25 rfl rfl rfl (new_c _) (by decide) fun g1 _ => ?_))
     | ((refine z_iscallf 26 ?_; refine o_calla Try.func26 rfl rfl rfl (rnew_c _) (by decide) fun g2 _ => ?_))
     | ((refine z_iscallf 28 ?_; refine o_callr rfl Try.func28 rfl rfl rfl (alive_c _ _ _ _ (cells_rds 0 rfl)) (by decide) ?_))
     | ((refine z_iscallf 29 ?_; refine o_callr rfl Try.func29 rfl rfl rfl (status_c _ _ _ _ (cells_rds 0 rfl)) (by decide) ?_))
     | ((refine z_iscallf 30 ?_; refine o_callr rfl Try.func30 rfl rfl rfl (parent_c _ _ _ _ (cells_rds 0 rfl)) (by decide) ?_))
     | ((refine z_iscallf 31 ?_; refine o_call Try.func31 rfl rfl rfl (wait_c _ _ _) (List.Perm.refl _) (by decide) fun _ _ => ?_)))
     | (refine z_ispick ?_; first
     | (refine o_pick1 rfl (by first | with_reducible rfl | with_reducible assumption | ((with_reducible refine decide_eq_true ?_); first | with_reducible rfl | with_reducible assumption | omega)) rfl (by decide) ?_)
     | (refine o_pick0 rfl (by first | with_reducible rfl | with_reducible assumption | ((with_reducible refine decide_eq_false ?_); first | with_reducible assumption | omega)) rfl (by decide) ?_)
     | (refine o_pick1 rfl (by first | (simp only [Bool.not_eq_true', decide_eq_false_iff_not]; omega) | (with_reducible assumption) | (rw [decide_eq_false] <;> (first | omega | with_reducible rfl)) | (rw [decide_eq_true] <;> (first | omega | with_reducible rfl)) | (simp; done) | (simp; omega)) rfl (by decide) ?_)
     | (refine o_pick0 rfl (by first | (simp only [Bool.not_eq_false', decide_eq_true_eq]; omega) | (with_reducible assumption) | (rw [decide_eq_false] <;> (first | omega | with_reducible rfl)) | (rw [decide_eq_true] <;> (first | omega | with_reducible rfl)) | (simp; done) | (simp; omega)) rfl (by decide) ?_))
     | (refine z_isix ?_; first
     | refine o_index0 tabOk rfl rfl rfl rfl (by omega) (by omega) (by decide) ?_
     | refine o_index1 tabOk rfl rfl rfl rfl (by omega) (by omega) (by decide) ?_
     | refine o_indexsk1 tabOk rfl rfl rfl rfl (by omega) (by omega) (by decide) ?_
     | refine o_indexsk tabOk rfl rfl rfl rfl (by omega) (by omega) (by decide) ?_
     | refine o_indexs1 tabOk (by first | assumption) rfl rfl rfl rfl (by omega) (by omega) (by decide) ?_)
     | (refine z_isbi ?_; first
     | refine o_len tabOk rfl rfl (by decide) ?_
     | refine o_min rfl rfl (by decide) ?_
     | refine o_max rfl rfl (by decide) ?_)
     | refine o_move rfl (by decide) ?_
     | refine o_assign rfl (by decide) ?_
     | refine o_nil rfl (by decide) ?_
     | refine o_extract rfl rfl (by decide) ?_
     | refine o_not rfl (by decide) ?_
     | refine o_field0 tabOk rfl rfl rfl rfl rfl (by decide) ?_
     | refine o_field tabOk rfl rfl rfl rfl rfl (by decide) ?_
     | refine o_conv tabOk rfl rfl rfl (by decide) ?_))
    refine Hold.go ?_
    have hn8 : (n : Int) < 8 := by omega
    rcases wait_two f with ⟨hA, hB, hC⟩ | ⟨hA, hB, hC, hD⟩
    · skip
      repeat' (first
       | (refine s_is ?_; first
       | (refine s_isret ?_; first
       | exact f_r1 rfl (res_t rfl) () trivial (by first | rfl | simp [hA, hB]) (fun w h => ((h.sel 3 [2, 0, 1] (by decide)).mask [true, false, false])))
       | (refine s_isw ?_; first
       | refine c_seq ?_
       | refine c_block ?_
       | refine c_region ?_
       | refine c_mixed mixed (by kernel_rfl) ?_
       | refine c_skip ?_
       | refine c_ret ?_
       | refine c_exit ?_
       | (refine s_iscond ?_; first
       | (refine c_true rfl (by first | with_reducible rfl | with_reducible assumption | ((with_reducible refine decide_eq_true ?_); first | with_reducible rfl | with_reducible assumption | omega)) ?_)
       | (refine c_false rfl (by first | with_reducible rfl | with_reducible assumption | ((with_reducible refine decide_eq_false ?_); first | with_reducible assumption | omega)) ?_)
       | (refine c_true rfl (by first | (simp only [Bool.not_eq_true', decide_eq_false_iff_not]; omega) | (with_reducible assumption) | (rw [decide_eq_false] <;> (first | omega | with_reducible rfl)) | (rw [decide_eq_true] <;> (first | omega | with_reducible rfl)) | (simp; done) | (simp; omega)) ?_)
       | (refine c_false rfl (by first | (simp only [Bool.not_eq_false', decide_eq_true_eq]; omega) | (with_reducible assumption) | (rw [decide_eq_false] <;> (first | omega | with_reducible rfl)) | (rw [decide_eq_true] <;> (first | omega | with_reducible rfl)) | (simp; done) | (simp; omega)) ?_)
       | refine c_cond rfl (fun hc => ?_) (fun hc => ?_)
       | refine c_condb rfl (fun hc => ?_) (fun hc => ?_)))
       | refine x_then ?_
       | refine x_then_ret ?_
       | refine x_then_exit ?_
       | refine x_block _ ?_
       | refine x_block_ret _ ?_
       | refine x_block_exit _ ?_
       | refine x_block_past (by decide) ?_
       | refine z_tailm ?_)
       | (refine z_isg1 ?_; first
       | refine z_skipu (by decide) rfl rfl ?_
       | (refine z_want1 rfl rfl (by first | with_reducible rfl | with_reducible assumption | ((with_reducible refine decide_eq_true ?_); first | with_reducible rfl | with_reducible assumption | omega)) ?_)
       | (refine z_skip1 (by decide) rfl rfl (by first | with_reducible rfl | with_reducible assumption | ((with_reducible refine decide_eq_false ?_); first | with_reducible assumption | omega)) ?_)
       | (refine z_want1 rfl rfl (by first | (simp only [Bool.not_eq_true', decide_eq_false_iff_not]; omega) | (with_reducible assumption) | (rw [decide_eq_false] <;> (first | omega | with_reducible rfl)) | (rw [decide_eq_true] <;> (first | omega | with_reducible rfl)) | (simp; done) | (simp; omega)) ?_)
       | (refine z_skip1 (by decide) rfl rfl (by first | (simp only [Bool.not_eq_false', decide_eq_true_eq]; omega) | (with_reducible assumption) | (rw [decide_eq_false] <;> (first | omega | with_reducible rfl)) | (rw [decide_eq_true] <;> (first | omega | with_reducible rfl)) | (simp; done) | (simp; omega)) ?_)
       | refine z_guard1 (by decide) rfl rfl (fun hc => ?_) (fun hc => ?_)
       | refine z_guardb (by decide) rfl rfl (fun hc => ?_) (fun hc => ?_))
       | (refine z_isg0 ?_; first
       | refine z_skipu (by decide) rfl rfl ?_
       | (refine z_want0 rfl rfl (by first | with_reducible rfl | with_reducible assumption | ((with_reducible refine decide_eq_false ?_); first | with_reducible assumption | omega)) ?_)
       | (refine z_skip0 (by decide) rfl rfl (by first | with_reducible rfl | with_reducible assumption | ((with_reducible refine decide_eq_true ?_); first | with_reducible rfl | with_reducible assumption | omega)) ?_)
       | (refine z_want0 rfl rfl (by first | (simp only [Bool.not_eq_false', decide_eq_true_eq]; omega) | (with_reducible assumption) | (rw [decide_eq_false] <;> (first | omega | with_reducible rfl)) | (rw [decide_eq_true] <;> (first | omega | with_reducible rfl)) | (simp; done) | (simp; omega)) ?_)
       | (refine z_skip0 (by decide) rfl rfl (by first | (simp only [Bool.not_eq_true', decide_eq_false_iff_not]; omega) | (with_reducible assumption) | (rw [decide_eq_false] <;> (first | omega | with_reducible rfl)) | (rw [decide_eq_true] <;> (first | omega | with_reducible rfl)) | (simp; done) | (simp; omega)) ?_)
       | refine z_guard0 (by decide) rfl rfl (fun hc => ?_) (fun hc => ?_)
       | refine z_guardb (by decide) rfl rfl (fun hc => ?_) (fun hc => ?_))
       | (refine z_isnil ?_; first
       | refine z_list ?_
       | refine z_mixed ?_
       | refine z_mono0 ?_
       | refine z_mono1 (by decide) fun g => ?_
       | refine z_mono2 (by decide) (by decide) fun g g' => ?_
       | refine z_mixedx ?_
       | refine z_quiet ?_)
       | (refine z_isop ?_; first
       | refine o_indexm tabOk rfl rfl rfl rfl (by omega) (by omega) (by decide) ?_
       | refine o_build0 (t := 102) (v := .agg Pe.zero.cs.toArray) (fun _ => by kernel_rfl) (by decide) ?_
       | refine o_build0 (t := 66) (v := .agg Pe.zero.cs.toArray) (fun _ => by kernel_rfl) (by decide) ?_
       | refine o_alloca (e := 102) (vs := Pe.zero.cs) rfl (by kernel_rfl) (by decide) fun g => ?_
       | refine o_alloca (e := 66) (vs := Pe.zero.cs) rfl (by kernel_rfl) (by decide) fun g => ?_
       | refine o_boxa rfl rfl (by decide) fun g => ?_
       | (refine z_isbin ?_; first
       | (refine z_isb .add ?_; first
       | refine o_add rfl rfl (by omega) (by omega) (by decide) ?_
       | refine o_addw rfl rfl (by decide) ?_)
       | (refine z_isb .eql ?_; first
       | refine o_eq rfl rfl (by decide) ?_
       | refine o_beq tabOk rfl rfl rfl (by decide) ?_
       | refine o_peq tabOk rfl rfl (by decide) ?_)
       | (refine z_isb .neq ?_; first
       | refine o_ne rfl rfl (by decide) ?_
       | refine o_bne tabOk rfl rfl rfl (by decide) ?_
       | refine o_pne tabOk rfl rfl (by decide) ?_)
       | (refine z_isb .lss ?_; first
       | refine o_lt rfl rfl (by decide) ?_)
       | (refine z_isb .leq ?_; first
       | refine o_le rfl rfl (by decide) ?_))
       | (refine z_isload ?_; first
       | refine o_loadp tabOk rfl rfl rfl 0 rfl (pe_len _) (tcs_el _ (by omega)) (by decide) ?_
       | refine o_loadp tabOk rfl rfl rfl 1 rfl (pe_len _) (tcs_el _ (by omega)) (by decide) ?_
       | (refine z_ld1 tabOk rfl rfl ?_; first
       | refine o_loadm tabOk rfl rfl rfl (by repeat' (first | exact List.mem_cons_self | apply List.mem_cons_of_mem)) (by first | exact tcs_s _ (by omega) | exact tcs_p _ (by omega) | exact tcs_u _ (by omega) | exact dd_k _ | exact dd_n _ | exact dd_u _ | rfl) (by decide) ?_
       | refine o_loads tabOk (by first | assumption | exact Rds.cons _ (by assumption) | exact Rds.cons _ (Rds.cons _ (by assumption)) | exact own_rds 0 rfl | exact own_rds 1 rfl | exact own_rds 2 rfl) rfl rfl rfl (by first | exact tcs_s _ (by omega) | exact tcs_p _ (by omega) | exact tcs_u _ (by omega) | exact dd_k _ | exact dd_n _ | exact dd_u _ | rfl) (by decide) ?_)
       | (refine z_ldw tabOk rfl rfl ?_; first
       | refine o_loadwm tabOk rfl rfl rfl (by repeat' (first | exact List.mem_cons_self | apply List.mem_cons_of_mem)) (by first | exact dd_len _ | (simp only [dd_len]) | rfl) (by decide) ?_))
       | (refine z_iscall ?_; first
       | ((refine z_iscallf 54 ?_; refine o_callr rfl Try.func54 rfl rfl rfl (in_c _ _ _ _ (by first | exact cells_rds 0 rfl | exact cells_rds 1 rfl | exact cells_rds 2 rfl)) (by decide) ?_))
       | ((refine z_iscallf 57 ?_; refine o_callr rfl Try.func57 rfl rfl rfl (ralive_c _ _ _ _ (by first | exact cells_rds 0 rfl | exact cells_rds 1 rfl | exact cells_rds 2 rfl)) (by decide) ?_))
       | ((refine z_iscallf 32 ?_; refine o_fn rfl Try.func32 rfl rfl rfl (awake_p) (by decide) ?_))
       | ((refine z_iscallf 25 ?_; refine o_calla Try.func25 rfl rfl rfl (new_c _) (by decide) fun g1 _ => ?_))
       | ((refine z_iscallf 26 ?_; refine o_calla Try.func26 rfl rfl rfl (rnew_c _) (by decide) fun g2 _ => ?_))
       | ((refine z_iscallf 28 ?_; refine o_callr rfl Try.func28 rfl rfl rfl (alive_c _ _ _ _ (cells_rds 0 rfl)) (by decide) ?_))
       | ((refine z_iscallf 29 ?_; refine o_callr rfl Try.func29 rfl rfl rfl (status_c _ _ _ _ (cells_rds 0 rfl)) (by decide) ?_))
       | ((refine z_iscallf 30 ?_; refine o_callr rfl Try.func30 rfl rfl rfl (parent_c _ _ _ _ (cells_rds 0 rfl)) (by decide) ?_))
       | ((refine z_iscallf 31 ?_; refine o_call Try.func31 rfl rfl rfl (wait_c _ _ _) (List.Perm.refl _) (by decide) fun _ _ => ?_)))
       | (refine z_ispick ?_; first
       | (refine o_pick1 rfl (by first | with_reducible rfl | with_reducible assumption | ((with_reducible refine decide_eq_true ?_); first | with_reducible rfl | with_reducible assumption | omega)) rfl (by decide) ?_)
       | (refine o_pick0 rfl (by first | with_reducible rfl | with_reducible assumption | ((with_reducible refine decide_eq_false ?_); first | with_reducible assumption | omega)) rfl (by decide) ?_)
       | (refine o_pick1 rfl (by first | (simp only [Bool.not_eq_true', decide_eq_false_iff_not]; omega) | (with_reducible assumption) | (rw [decide_eq_false] <;> (first | omega | with_reducible rfl)) | (rw [decide_eq_true] <;> (first | omega | with_reducible rfl)) | (simp; done) | (simp; omega)) rfl (by decide) ?_)
       | (refine o_pick0 rfl (by first | (simp only [Bool.not_eq_false', decide_eq_true_eq]; omega) | (with_reducible assumption) | (rw [decide_eq_false] <;> (first | omega | with_reducible rfl)) | (rw [decide_eq_true] <;> (first | omega | with_reducible rfl)) | (simp; done) | (simp; omega)) rfl (by decide) ?_))
       | (refine z_isix ?_; first
       | refine o_index0 tabOk rfl rfl rfl rfl (by omega) (by omega) (by decide) ?_
       | refine o_index1 tabOk rfl rfl rfl rfl (by omega) (by omega) (by decide) ?_
       | refine o_indexsk1 tabOk rfl rfl rfl rfl (by omega) (by omega) (by decide) ?_
       | refine o_indexsk tabOk rfl rfl rfl rfl (by omega) (by omega) (by decide) ?_
       | refine o_indexs1 tabOk (by first | assumption) rfl rfl rfl rfl (by omega) (by omega) (by decide) ?_)
       | (refine z_isbi ?_; first
       | refine o_len tabOk rfl rfl (by decide) ?_
       | refine o_min rfl rfl (by decide) ?_
       | refine o_max rfl rfl (by decide) ?_)
       | refine o_move rfl (by decide) ?_
       | refine o_assign rfl (by decide) ?_
       | refine o_nil rfl (by decide) ?_
       | refine o_extract rfl rfl (by decide) ?_
       | refine o_not rfl (by decide) ?_
       | refine o_field0 tabOk rfl rfl rfl rfl rfl (by decide) ?_
       | refine o_field tabOk rfl rfl rfl rfl rfl (by decide) ?_
       | refine o_conv tabOk rfl rfl rfl (by decide) ?_))
    · skip
      repeat' (first
       | (refine s_is ?_; first
       | (refine s_isagain ?_; first
       | (exact c_again (n + 1, (wait f 1).e) (by dsimp only; omega) (by dsimp only; omega) ⟨rfl, rfl, trivial⟩ (fun w h => h)))
       | (refine s_isw ?_; first
       | refine c_seq ?_
       | refine c_block ?_
       | refine c_region ?_
       | refine c_mixed mixed (by kernel_rfl) ?_
       | refine c_skip ?_
       | refine c_ret ?_
       | refine c_exit ?_
       | (refine s_iscond ?_; first
       | (refine c_true rfl (by first | with_reducible rfl | with_reducible assumption | ((with_reducible refine decide_eq_true ?_); first | with_reducible rfl | with_reducible assumption | omega)) ?_)
       | (refine c_false rfl (by first | with_reducible rfl | with_reducible assumption | ((with_reducible refine decide_eq_false ?_); first | with_reducible assumption | omega)) ?_)
       | (refine c_true rfl (by first | (simp only [Bool.not_eq_true', decide_eq_false_iff_not]; omega) | (with_reducible assumption) | (rw [decide_eq_false] <;> (first | omega | with_reducible rfl)) | (rw [decide_eq_true] <;> (first | omega | with_reducible rfl)) | (simp; done) | (simp; omega)) ?_)
       | (refine c_false rfl (by first | (simp only [Bool.not_eq_false', decide_eq_true_eq]; omega) | (with_reducible assumption) | (rw [decide_eq_false] <;> (first | omega | with_reducible rfl)) | (rw [decide_eq_true] <;> (first | omega | with_reducible rfl)) | (simp; done) | (simp; omega)) ?_)
       | refine c_cond rfl (fun hc => ?_) (fun hc => ?_)
       | refine c_condb rfl (fun hc => ?_) (fun hc => ?_)))
       | refine x_then ?_
       | refine x_then_ret ?_
       | refine x_then_exit ?_
       | refine x_block _ ?_
       | refine x_block_ret _ ?_
       | refine x_block_exit _ ?_
       | refine x_block_past (by decide) ?_
       | refine z_tailm ?_)
       | (refine z_isg1 ?_; first
       | refine z_skipu (by decide) rfl rfl ?_
       | (refine z_want1 rfl rfl (by first | with_reducible rfl | with_reducible assumption | ((with_reducible refine decide_eq_true ?_); first | with_reducible rfl | with_reducible assumption | omega)) ?_)
       | (refine z_skip1 (by decide) rfl rfl (by first | with_reducible rfl | with_reducible assumption | ((with_reducible refine decide_eq_false ?_); first | with_reducible assumption | omega)) ?_)
       | (refine z_want1 rfl rfl (by first | (simp only [Bool.not_eq_true', decide_eq_false_iff_not]; omega) | (with_reducible assumption) | (rw [decide_eq_false] <;> (first | omega | with_reducible rfl)) | (rw [decide_eq_true] <;> (first | omega | with_reducible rfl)) | (simp; done) | (simp; omega)) ?_)
       | (refine z_skip1 (by decide) rfl rfl (by first | (simp only [Bool.not_eq_false', decide_eq_true_eq]; omega) | (with_reducible assumption) | (rw [decide_eq_false] <;> (first | omega | with_reducible rfl)) | (rw [decide_eq_true] <;> (first | omega | with_reducible rfl)) | (simp; done) | (simp; omega)) ?_)
       | refine z_guard1 (by decide) rfl rfl (fun hc => ?_) (fun hc => ?_)
       | refine z_guardb (by decide) rfl rfl (fun hc => ?_) (fun hc => ?_))
       | (refine z_isg0 ?_; first
       | refine z_skipu (by decide) rfl rfl ?_
       | (refine z_want0 rfl rfl (by first | with_reducible rfl | with_reducible assumption | ((with_reducible refine decide_eq_false ?_); first | with_reducible assumption | omega)) ?_)
       | (refine z_skip0 (by decide) rfl rfl (by first | with_reducible rfl | with_reducible assumption | ((with_reducible refine decide_eq_true ?_); first | with_reducible rfl | with_reducible assumption | omega)) ?_)
       | (refine z_want0 rfl rfl (by first | (simp only [Bool.not_eq_false', decide_eq_true_eq]; omega) | (with_reducible assumption) | (rw [decide_eq_false] <;> (first | omega | with_reducible rfl)) | (rw [decide_eq_true] <;> (first | omega | with_reducible rfl)) | (simp; done) | (simp; omega)) ?_)
       | (refine z_skip0 (by decide) rfl rfl (by first | (simp only [Bool.not_eq_true', decide_eq_false_iff_not]; omega) | (with_reducible assumption) | (rw [decide_eq_false] <;> (first | omega | with_reducible rfl)) | (rw [decide_eq_true] <;> (first | omega | with_reducible rfl)) | (simp; done) | (simp; omega)) ?_)
       | refine z_guard0 (by decide) rfl rfl (fun hc => ?_) (fun hc => ?_)
       | refine z_guardb (by decide) rfl rfl (fun hc => ?_) (fun hc => ?_))
       | (refine z_isnil ?_; first
       | refine z_list ?_
       | refine z_mixed ?_
       | refine z_mono0 ?_
       | refine z_mono1 (by decide) fun g => ?_
       | refine z_mono2 (by decide) (by decide) fun g g' => ?_
       | refine z_mixedx ?_
       | refine z_quiet ?_)
       | (refine z_isop ?_; first
       | refine o_indexm tabOk rfl rfl rfl rfl (by omega) (by omega) (by decide) ?_
       | refine o_build0 (t := 102) (v := .agg Pe.zero.cs.toArray) (fun _ => by kernel_rfl) (by decide) ?_
       | refine o_build0 (t := 66) (v := .agg Pe.zero.cs.toArray) (fun _ => by kernel_rfl) (by decide) ?_
       | refine o_alloca (e := 102) (vs := Pe.zero.cs) rfl (by kernel_rfl) (by decide) fun g => ?_
       | refine o_alloca (e := 66) (vs := Pe.zero.cs) rfl (by kernel_rfl) (by decide) fun g => ?_
       | refine o_boxa rfl rfl (by decide) fun g => ?_
       | (refine z_isbin ?_; first
       | (refine z_isb .add ?_; first
       | refine o_add rfl rfl (by omega) (by omega) (by decide) ?_
       | refine o_addw rfl rfl (by decide) ?_)
       | (refine z_isb .eql ?_; first
       | refine o_eq rfl rfl (by decide) ?_
       | refine o_beq tabOk rfl rfl rfl (by decide) ?_
       | refine o_peq tabOk rfl rfl (by decide) ?_)
       | (refine z_isb .neq ?_; first
       | refine o_ne rfl rfl (by decide) ?_
       | refine o_bne tabOk rfl rfl rfl (by decide) ?_
       | refine o_pne tabOk rfl rfl (by decide) ?_)
       | (refine z_isb .lss ?_; first
       | refine o_lt rfl rfl (by decide) ?_)
       | (refine z_isb .leq ?_; first
       | refine o_le rfl rfl (by decide) ?_))
       | (refine z_isload ?_; first
       | refine o_loadp tabOk rfl rfl rfl 0 rfl (pe_len _) (tcs_el _ (by omega)) (by decide) ?_
       | refine o_loadp tabOk rfl rfl rfl 1 rfl (pe_len _) (tcs_el _ (by omega)) (by decide) ?_
       | (refine z_ld1 tabOk rfl rfl ?_; first
       | refine o_loadm tabOk rfl rfl rfl (by repeat' (first | exact List.mem_cons_self | apply List.mem_cons_of_mem)) (by first | exact tcs_s _ (by omega) | exact tcs_p _ (by omega) | exact tcs_u _ (by omega) | exact dd_k _ | exact dd_n _ | exact dd_u _ | rfl) (by decide) ?_
       | refine o_loads tabOk (by first | assumption | exact Rds.cons _ (by assumption) | exact Rds.cons _ (Rds.cons _ (by assumption)) | exact own_rds 0 rfl | exact own_rds 1 rfl | exact own_rds 2 rfl) rfl rfl rfl (by first | exact tcs_s _ (by omega) | exact tcs_p _ (by omega) | exact tcs_u _ (by omega) | exact dd_k _ | exact dd_n _ | exact dd_u _ | rfl) (by decide) ?_)
       | (refine z_ldw tabOk rfl rfl ?_; first
       | refine o_loadwm tabOk rfl rfl rfl (by repeat' (first | exact List.mem_cons_self | apply List.mem_cons_of_mem)) (by first | exact dd_len _ | (simp only [dd_len]) | rfl) (by decide) ?_))
       | (refine z_iscall ?_; first
       | ((refine z_iscallf 54 ?_; refine o_callr rfl Try.func54 rfl rfl rfl (in_c _ _ _ _ (by first | exact cells_rds 0 rfl | exact cells_rds 1 rfl | exact cells_rds 2 rfl)) (by decide) ?_))
       | ((refine z_iscallf 57 ?_; refine o_callr rfl Try.func57 rfl rfl rfl (ralive_c _ _ _ _ (by first | exact cells_rds 0 rfl | exact cells_rds 1 rfl | exact cells_rds 2 rfl)) (by decide) ?_))
       | ((refine z_iscallf 32 ?_; refine o_fn rfl Try.func32 rfl rfl rfl (awake_p) (by decide) ?_))
       | ((refine z_iscallf 25 ?_; refine o_calla Try.func25 rfl rfl rfl (new_c _) (by decide) fun g1 _ => ?_))
       | ((refine z_iscallf 26 ?_; refine o_calla Try.func26 rfl rfl rfl (rnew_c _) (by decide) fun g2 _ => ?_))
       | ((refine z_iscallf 28 ?_; refine o_callr rfl Try.func28 rfl rfl rfl (alive_c _ _ _ _ (cells_rds 0 rfl)) (by decide) ?_))
       | ((refine z_iscallf 29 ?_; refine o_callr rfl Try.func29 rfl rfl rfl (status_c _ _ _ _ (cells_rds 0 rfl)) (by decide) ?_))
       | ((refine z_iscallf 30 ?_; refine o_callr rfl Try.func30 rfl rfl rfl (parent_c _ _ _ _ (cells_rds 0 rfl)) (by decide) ?_))
       | ((refine z_iscallf 31 ?_; refine o_call Try.func31 rfl rfl rfl (wait_c _ _ _) (List.Perm.refl _) (by decide) fun _ _ => ?_)))
       | (refine z_ispick ?_; first
       | (refine o_pick1 rfl (by first | with_reducible rfl | with_reducible assumption | ((with_reducible refine decide_eq_true ?_); first | with_reducible rfl | with_reducible assumption | omega)) rfl (by decide) ?_)
       | (refine o_pick0 rfl (by first | with_reducible rfl | with_reducible assumption | ((with_reducible refine decide_eq_false ?_); first | with_reducible assumption | omega)) rfl (by decide) ?_)
       | (refine o_pick1 rfl (by first | (simp only [Bool.not_eq_true', decide_eq_false_iff_not]; omega) | (with_reducible assumption) | (rw [decide_eq_false] <;> (first | omega | with_reducible rfl)) | (rw [decide_eq_true] <;> (first | omega | with_reducible rfl)) | (simp; done) | (simp; omega)) rfl (by decide) ?_)
       | (refine o_pick0 rfl (by first | (simp only [Bool.not_eq_false', decide_eq_true_eq]; omega) | (with_reducible assumption) | (rw [decide_eq_false] <;> (first | omega | with_reducible rfl)) | (rw [decide_eq_true] <;> (first | omega | with_reducible rfl)) | (simp; done) | (simp; omega)) rfl (by decide) ?_))
       | (refine z_isix ?_; first
       | refine o_index0 tabOk rfl rfl rfl rfl (by omega) (by omega) (by decide) ?_
       | refine o_index1 tabOk rfl rfl rfl rfl (by omega) (by omega) (by decide) ?_
       | refine o_indexsk1 tabOk rfl rfl rfl rfl (by omega) (by omega) (by decide) ?_
       | refine o_indexsk tabOk rfl rfl rfl rfl (by omega) (by omega) (by decide) ?_
       | refine o_indexs1 tabOk (by first | assumption) rfl rfl rfl rfl (by omega) (by omega) (by decide) ?_)
       | (refine z_isbi ?_; first
       | refine o_len tabOk rfl rfl (by decide) ?_
       | refine o_min rfl rfl (by decide) ?_
       | refine o_max rfl rfl (by decide) ?_)
       | refine o_move rfl (by decide) ?_
       | refine o_assign rfl (by decide) ?_
       | refine o_nil rfl (by decide) ?_
       | refine o_extract rfl rfl (by decide) ?_
       | refine o_not rfl (by decide) ?_
       | refine o_field0 tabOk rfl rfl rfl rfl rfl (by decide) ?_
       | refine o_field tabOk rfl rfl rfl rfl rfl (by decide) ?_
       | refine o_conv tabOk rfl rfl rfl (by decide) ?_))
end Go.Proofs.Ytmfnjmmdchlkiaa
