/-
The law of the plays.
-/
import Derived.Test.YtmfnjmmdchlkiaaPr9
namespace Go.Proofs.Ytmfnjmmdchlkiaa
set_option linter.unusedVariables false
set_option linter.unusedSimpArgs false
open Eng
theorem lvN_pre (e : Tb) {n : Nat} : ∀ m, n ≤ m → ∃ t, lvN e m = lvN e n ++ t
  | 0, h => ⟨[], by rw [show n = 0 by omega]; simp⟩
  | m + 1, h => by
    by_cases hm : n = m + 1
    · subst hm; exact ⟨[], by simp⟩
    · obtain ⟨t, ht⟩ := lvN_pre e (n := n) m (by omega)
      rcases Bool.eq_false_or_eq_true (inB e ((m : Int) + 1)) with hb | hb
      · exact ⟨t ++ [(m : Int) + 1], by rw [lvN_yes hb, ht, List.append_assoc]⟩
      · exact ⟨t, by rw [lvN_no hb, ht]⟩
theorem lvN_get {e : Tb} {n : Nat} (hn : n < 7) (h : inB e ((n : Int) + 1) = true) : (lvN e n).length < (lvN e 7).length ∧ (lvN e 7).getD (lvN e n).length 0 = (n : Int) + 1 := by
  obtain ⟨t, ht⟩ := lvN_pre e (n := n + 1) 7 (by omega)
  rw [ht, lvN_yes h]
  constructor
  · simp
  · simp
/-- How many live below v. -/
def cntV (e : Tb) (v : Int) : Nat := (lvN e (min (v - 1) 7).toNat).length
theorem cntV_out {e : Tb} {v : Int} (h : ¬ (1 ≤ v ∧ v ≤ 7)) : cntV e (v + 1) = cntV e v := by
  unfold cntV
  rw [show (min (v + 1 - 1) 7).toNat = (min (v - 1) 7).toNat by omega]
theorem cntV_in {e : Tb} {v : Int} (h : 1 ≤ v ∧ v ≤ 7) : cntV e v = (lvN e (v.toNat - 1)).length ∧ cntV e (v + 1) = (lvN e (v.toNat - 1 + 1)).length := by
  unfold cntV
  rw [show (min (v + 1 - 1) 7).toNat = v.toNat - 1 + 1 by omega, show (min (v - 1) 7).toNat = v.toNat - 1 by omega]
  exact ⟨rfl, rfl⟩
theorem cntV_yes {e : Tb} {v : Int} (h : inB e v = true) : cntV e (v + 1) = cntV e v + 1 ∧ cntV e v < (lvN e 7).length ∧ (lvN e 7).getD (cntV e v) 0 = v := by
  obtain ⟨h1, h2, _⟩ := in_iff.1 h
  have hc := cntV_in (e := e) ⟨h1, h2⟩
  have hv : ((v.toNat - 1 : Nat) : Int) + 1 = v := by omega
  have hg := lvN_get (e := e) (n := v.toNat - 1) (by omega) (by rw [hv]; exact h)
  rw [hc.1, hc.2, lvN_yes (by rw [hv]; exact h)]
  refine ⟨by simp, hg.1, ?_⟩
  rw [hg.2, hv]
theorem cntV_no {e : Tb} {v : Int} (h : inB e v = false) : cntV e (v + 1) = cntV e v := by
  by_cases h1 : 1 ≤ v ∧ v ≤ 7
  · have hc := cntV_in (e := e) h1
    have hv : ((v.toNat - 1 : Nat) : Int) + 1 = v := by omega
    rw [hc.1, hc.2, lvN_no (by rw [hv]; exact h)]
  · exact cntV_out h1
theorem cntV_start (e : Tb) : cntV e (-1) = 0 := rfl
theorem cntV_end (e : Tb) : cntV e 10 = (lvN e 7).length := rfl
theorem cntV_le (e : Tb) (v : Int) : cntV e v ≤ 7 := Nat.le_trans (lvN_le e _) (by omega)
theorem dn_in {e : Tb} {v : Int} (h : 1 ≤ v ∧ v ≤ 7) : dnB e v = decide ((e v.toNat).s = 2) := by simp [dnB, h.1, h.2]
theorem pa_in {e : Tb} (h : Ok2 e) {v : Int} (hv : 1 ≤ v ∧ v ≤ 7) : paV e v = (e v.toNat).p := by
  unfold paV
  by_cases h0 : (e v.toNat).s = 0
  · rw [if_neg (by simp [paB, h0]), h.f _ h0]; rfl
  · rw [if_pos (by simp [paB, hv.1, hv.2, h0])]
theorem in_in {e : Tb} {v : Int} (h : 1 ≤ v ∧ v ≤ 7) : inB e v = decide ((e v.toNat).s = 1) := by simp [inB, h.1, h.2]
theorem dn_out {e : Tb} {v : Int} (h : ¬ (1 ≤ v ∧ v ≤ 7)) : dnB e v = false := by
  unfold dnB
  by_cases h1 : 1 ≤ v
  · simp [show ¬ v ≤ 7 by omega]
  · simp [h1]
theorem in_out {e : Tb} {v : Int} (h : ¬ (1 ≤ v ∧ v ≤ 7)) : inB e v = false := by
  unfold inB
  by_cases h1 : 1 ≤ v
  · simp [show ¬ v ≤ 7 by omega]
  · simp [h1]
theorem pa_out {e : Tb} {v : Int} (h : ¬ (1 ≤ v ∧ v ≤ 7)) : paV e v = 0 := by
  unfold paV paB
  by_cases h1 : 1 ≤ v
  · simp [show ¬ v ≤ 7 by omega]
  · simp [h1]
attribute [local irreducible] Eng.Hold Eng.Z Eng.S Eng.cells Eng.old Eng.own tcs Pe.cs inB
attribute [local irreducible] i64p dnB stV paB paV lvN first fork exit wait deed Dd.cs cntV
set_option maxHeartbeats 8000000 in
theorem procPlays (W : World) (A0 : Option Addr) (c0 : Nat) (D : List Dd) (hrd : Rds [old W] A0 (D.flatMap Dd.cs)) (hx : D.length ≤ 9223372036854775807) :
    Does Try.prog 8 [.slice A0 D.length c0] [old W] (fun _ : Unit => True) (fun _ => .bool true) (fun _ => [old W]) := by
  intro w hw
  have hne0 : 0 < D.length → A0 ≠ none := fun h => hrd.ne hw (by rw [flat_len Dd.cs 3 dd_len]; omega)
  refine f_enter Try.func8 rfl Try.ntmps8 rfl hw ?_
  repeat' (first
   | (refine s_is ?_; first
   | (refine s_isw ?_; first
   | (refine s_isloop ?_; first
   | ((refine c_loop (X := Nat × Tb) (fun y => y.1 ≤ D.length ∧ Ok2 y.2) (fun y => [(0, .slice A0 D.length c0), (3, .pointer (some ⟨g1, 0, none⟩)), (4, .pointer (some ⟨g2, 0, none⟩)), (5, .int .i64 y.1)]) (fun y => [cells g1 105 (tcs y.2), cells g2 69 (tcs y.2), old W]) (fun y => D.length - y.1) (0, first) ⟨Nat.zero_le _, ok2_first⟩ ⟨rfl, rfl, rfl, rfl, trivial⟩ (fun w h => ((h.sel 3 [1, 0, 2] (by decide)).mask [true, true, true])) (fun y hy => ?_); obtain ⟨i, e⟩ := y; obtain ⟨hi, hok⟩ := hy; dsimp only at hi hok ⊢; refine hold ?_)))
   | refine c_seq ?_
   | refine c_block ?_
   | refine c_region ?_
   | refine c_mixed mixed (by kernel_rfl) ?_
   | refine c_skip ?_
   | refine c_ret ?_
   | refine c_exit ?_
   | (refine s_iscond ?_; first
   | (refine c_true rfl (by first | with_reducible rfl | with_reducible assumption | ((with_reducible refine decide_eq_true ?_); first | with_reducible rfl | with_reducible assumption | omega)) ?_)
   | (refine c_false rfl (by first | with_reducible rfl | with_reducible assumption | ((with_reducible refine decide_eq_false ?_); first | with_reducible assumption | omega)) ?_)
   | (refine c_true rfl (by first | (simp only [Bool.not_eq_true', decide_eq_false_iff_not]; omega) | (with_reducible assumption) | (rw [decide_eq_false] <;> (first | omega | with_reducible rfl)) | (rw [decide_eq_true] <;> (first | omega | with_reducible rfl)) | (simp; done) | (simp; omega)) ?_)
   | (refine c_false rfl (by first | (simp only [Bool.not_eq_false', decide_eq_true_eq]; omega) | (with_reducible assumption) | (rw [decide_eq_false] <;> (first | omega | with_reducible rfl)) | (rw [decide_eq_true] <;> (first | omega | with_reducible rfl)) | (simp; done) | (simp; omega)) ?_)
   | refine c_cond rfl (fun hc => ?_) (fun hc => ?_)
   | refine c_condb rfl (fun hc => ?_) (fun hc => ?_)))
   | refine x_then ?_
   | refine x_then_ret ?_
   | refine x_then_exit ?_
   | refine x_block _ ?_
   | refine x_block_ret _ ?_
   | refine x_block_exit _ ?_
   | refine x_block_past (by decide) ?_
   | refine z_tailm ?_)
   | (refine z_isg1 ?_; first
   | refine z_skipu (by decide) rfl rfl ?_
   | (refine z_want1 rfl rfl (by first | with_reducible rfl | with_reducible assumption | ((with_reducible refine decide_eq_true ?_); first | with_reducible rfl | with_reducible assumption | omega)) ?_)
   | (refine z_skip1 (by decide) rfl rfl (by first | with_reducible rfl | with_reducible assumption | ((with_reducible refine decide_eq_false ?_); first | with_reducible assumption | omega)) ?_)
   | (refine z_want1 rfl rfl (by first | (simp only [Bool.not_eq_true', decide_eq_false_iff_not]; omega) | (with_reducible assumption) | (rw [decide_eq_false] <;> (first | omega | with_reducible rfl)) | (rw [decide_eq_true] <;> (first | omega | with_reducible rfl)) | (simp; done) | (simp; omega)) ?_)
   | (refine z_skip1 (by decide) rfl rfl (by first | (simp only [Bool.not_eq_false', decide_eq_true_eq]; omega) | (with_reducible assumption) | (rw [decide_eq_false] <;> (first | omega | with_reducible rfl)) | (rw [decide_eq_true] <;> (first | omega | with_reducible rfl)) | (simp; done) | (simp; omega)) ?_)
   | refine z_guard1 (by decide) rfl rfl (fun hc => ?_) (fun hc => ?_)
   | refine z_guardb (by decide) rfl rfl (fun hc => ?_) (fun hc => ?_))
   | (refine z_isg0 ?_; first
   | refine z_skipu (by decide) rfl rfl ?_
   | (refine z_want0 rfl rfl (by first | with_reducible rfl | with_reducible assumption | ((with_reducible refine decide_eq_false ?_); first | with_reducible assumption | omega)) ?_)
   | (refine z_skip0 (by decide) rfl rfl (by first | with_reducible rfl | with_reducible assumption | ((with_reducible refine decide_eq_true ?_); first | with_reducible rfl | with_reducible assumption | omega)) ?_)
   | (refine z_want0 rfl rfl (by first | (simp only [Bool.not_eq_false', decide_eq_true_eq]; omega) | (with_reducible assumption) | (rw [decide_eq_false] <;> (first | omega | with_reducible rfl)) | (rw [decide_eq_true] <;> (first | omega | with_reducible rfl)) | (simp; done) | (simp; omega)) ?_)
   | (refine z_skip0 (by decide) rfl rfl (by first | (simp only [Bool.not_eq_true', decide_eq_false_iff_not]; omega) | (with_reducible assumption) | (rw [decide_eq_false] <;> (first | omega | with_reducible rfl)) | (rw [decide_eq_true] <;> (first | omega | with_reducible rfl)) | (simp; done) | (simp; omega)) ?_)
   | refine z_guard0 (by decide) rfl rfl (fun hc => ?_) (fun hc => ?_)
   | refine z_guardb (by decide) rfl rfl (fun hc => ?_) (fun hc => ?_))
   | (refine z_isnil ?_; first
   | refine z_list ?_
   | refine z_mixed ?_
   | refine z_mono0 ?_
   | refine z_mono1 (by decide) fun g => ?_
   | refine z_mono2 (by decide) (by decide) fun g g' => ?_
   | refine z_mixedx ?_
   | refine z_quiet ?_)
   | (refine z_isop ?_; first
   | refine o_indexm tabOk rfl rfl rfl rfl (by omega) (by omega) (by decide) ?_
   | refine o_build0 (t := 102) (v := .agg Pe.zero.cs.toArray) (fun _ => by kernel_rfl) (by decide) ?_
   | refine o_build0 (t := 66) (v := .agg Pe.zero.cs.toArray) (fun _ => by kernel_rfl) (by decide) ?_
   | refine o_alloca (e := 102) (vs := Pe.zero.cs) rfl (by kernel_rfl) (by decide) fun g => ?_
   | refine o_alloca (e := 66) (vs := Pe.zero.cs) rfl (by kernel_rfl) (by decide) fun g => ?_
   | refine o_boxa rfl rfl (by decide) fun g => ?_
   | (refine z_isbin ?_; first
   | (refine z_isb .add ?_; first
   | refine o_add rfl rfl (by omega) (by omega) (by decide) ?_
   | refine o_addw rfl rfl (by decide) ?_)
   | (refine z_isb .eql ?_; first
   | refine o_eq rfl rfl (by decide) ?_
   | refine o_beq tabOk rfl rfl rfl (by decide) ?_
   | refine o_peq tabOk rfl rfl (by decide) ?_)
   | (refine z_isb .neq ?_; first
   | refine o_ne rfl rfl (by decide) ?_
   | refine o_bne tabOk rfl rfl rfl (by decide) ?_
   | refine o_pne tabOk rfl rfl (by decide) ?_)
   | (refine z_isb .lss ?_; first
   | refine o_lt rfl rfl (by decide) ?_)
   | (refine z_isb .leq ?_; first
   | refine o_le rfl rfl (by decide) ?_)
   | (refine z_isb .geq ?_; first
   | refine o_ge rfl rfl (by decide) ?_))
   | (refine z_isload ?_; first
   | refine o_loadp tabOk rfl rfl rfl 0 rfl (pe_len _) (tcs_el _ (by omega)) (by decide) ?_
   | refine o_loadp tabOk rfl rfl rfl 1 rfl (pe_len _) (tcs_el _ (by omega)) (by decide) ?_
   | (refine z_ld1 tabOk rfl rfl ?_; first
   | refine o_loadm tabOk rfl rfl rfl (by repeat' (first | exact List.mem_cons_self | apply List.mem_cons_of_mem)) (by first | exact tcs_s _ (by omega) | exact tcs_p _ (by omega) | exact tcs_u _ (by omega) | exact dd_k _ | exact dd_n _ | exact dd_u _ | exact i64p_at _ (by omega) | rfl) (by decide) ?_
   | refine o_loads tabOk (by first | assumption | exact Rds.cons _ (by assumption) | exact Rds.cons _ (Rds.cons _ (by assumption)) | exact own_rds 0 rfl | exact own_rds 1 rfl | exact own_rds 2 rfl) rfl rfl rfl (by first | exact tcs_s _ (by omega) | exact tcs_p _ (by omega) | exact tcs_u _ (by omega) | exact dd_k _ | exact dd_n _ | exact dd_u _ | exact i64p_at _ (by omega) | rfl) (by decide) ?_)
   | (refine z_ldw tabOk rfl rfl ?_; first
   | refine o_loadwm tabOk rfl rfl rfl (by repeat' (first | exact List.mem_cons_self | apply List.mem_cons_of_mem)) (by first | exact dd_len _ | (simp only [dd_len]) | rfl) (by decide) ?_))
   | (refine z_iscall ?_; first
   | ((refine z_iscallf 54 ?_; refine o_callr rfl Try.func54 rfl rfl rfl (in_c _ _ _ _ (by first | exact cells_rds 0 rfl | exact cells_rds 1 rfl | exact cells_rds 2 rfl)) (by decide) ?_))
   | ((refine z_iscallf 57 ?_; refine o_callr rfl Try.func57 rfl rfl rfl (ralive_c _ _ _ _ (by first | exact cells_rds 0 rfl | exact cells_rds 1 rfl | exact cells_rds 2 rfl)) (by decide) ?_))
   | ((refine z_iscallf 32 ?_; refine o_fn rfl Try.func32 rfl rfl rfl (awake_p) (by decide) ?_))
   | ((refine z_iscallf 25 ?_; refine o_calla Try.func25 rfl rfl rfl (new_c _) (by decide) fun g1 _ => ?_))
   | ((refine z_iscallf 26 ?_; refine o_calla Try.func26 rfl rfl rfl (rnew_c _) (by decide) fun g2 _ => ?_))
   | ((refine z_iscallf 28 ?_; refine o_callr rfl Try.func28 rfl rfl rfl (alive_c _ _ _ _ (cells_rds 1 rfl)) (by decide) ?_))
   | ((refine z_iscallf 29 ?_; refine o_callr rfl Try.func29 rfl rfl rfl (status_c _ _ _ _ (cells_rds 1 rfl)) (by decide) ?_))
   | ((refine z_iscallf 30 ?_; refine o_callr rfl Try.func30 rfl rfl rfl (parent_c _ _ _ _ (cells_rds 1 rfl)) (by decide) ?_))
   | ((refine z_iscallf 33 ?_; refine o_calla Try.func33 rfl rfl rfl (living_c _ _ _ (cells_rds 0 rfl)) (by decide) fun x _ => ?_)))
   | (refine z_ispick ?_; first
   | (refine o_pick1 rfl (by first | with_reducible rfl | with_reducible assumption | ((with_reducible refine decide_eq_true ?_); first | with_reducible rfl | with_reducible assumption | omega)) rfl (by decide) ?_)
   | (refine o_pick0 rfl (by first | with_reducible rfl | with_reducible assumption | ((with_reducible refine decide_eq_false ?_); first | with_reducible assumption | omega)) rfl (by decide) ?_)
   | (refine o_pick1 rfl (by first | (simp only [Bool.not_eq_true', decide_eq_false_iff_not]; omega) | (with_reducible assumption) | (rw [decide_eq_false] <;> (first | omega | with_reducible rfl)) | (rw [decide_eq_true] <;> (first | omega | with_reducible rfl)) | (simp; done) | (simp; omega)) rfl (by decide) ?_)
   | (refine o_pick0 rfl (by first | (simp only [Bool.not_eq_false', decide_eq_true_eq]; omega) | (with_reducible assumption) | (rw [decide_eq_false] <;> (first | omega | with_reducible rfl)) | (rw [decide_eq_true] <;> (first | omega | with_reducible rfl)) | (simp; done) | (simp; omega)) rfl (by decide) ?_))
   | (refine z_isix ?_; first
   | refine o_index0 tabOk rfl rfl rfl rfl (by omega) (by omega) (by decide) ?_
   | refine o_index1 tabOk rfl rfl rfl rfl (by omega) (by omega) (by decide) ?_
   | refine o_indexsk1 tabOk rfl rfl rfl rfl (by omega) (by omega) (by decide) ?_
   | refine o_indexsk tabOk rfl rfl rfl rfl (by omega) (by omega) (by decide) ?_
   | refine o_indexs1 tabOk (by first | exact hne (by omega) | assumption) rfl rfl rfl rfl (by omega) (by omega) (by decide) ?_)
   | (refine z_isbi ?_; first
   | refine o_len tabOk rfl rfl (by decide) ?_
   | refine o_min rfl rfl (by decide) ?_
   | refine o_max rfl rfl (by decide) ?_)
   | refine o_move rfl (by decide) ?_
   | refine o_assign rfl (by decide) ?_
   | refine o_nil rfl (by decide) ?_
   | refine o_extract rfl rfl (by decide) ?_
   | refine o_not rfl (by decide) ?_
   | refine o_field0 tabOk rfl rfl rfl rfl rfl (by decide) ?_
   | refine o_field tabOk rfl rfl rfl rfl rfl (by decide) ?_
   | refine o_conv tabOk rfl rfl rfl (by decide) ?_))
  refine Hold.go ?_
  by_cases hlt : i < D.length ∧ i < 80
  · obtain ⟨d, hd⟩ : ∃ d, D[i]? = some d := ⟨D[i], List.getElem?_eq_getElem hlt.1⟩
    have hok' := hok.deed d
    repeat' (first
     | (refine s_is ?_; first
     | ((generalize deed e d = e' at *; obtain ⟨A, c⟩ := x; dsimp only; refine c_own2 0 rfl fun hkc hne => ?_; refine c_loop (X := Int) (fun v => -1 ≤ v ∧ v ≤ 10) (fun v => [(0, .slice A0 D.length c0), (3, .pointer (some ⟨g1, 0, none⟩)), (4, .pointer (some ⟨g2, 0, none⟩)), (5, .int .i64 i), (6, .int .i64 (cntV e' v)), (7, .slice A (lvN e' 7).length c), (8, .int .i64 v)]) (fun v => [own A c 3 1 (lvN e' 7).length (i64p (lvN e' 7)), cells g1 105 (tcs e'), cells g2 69 (tcs e'), old W]) (fun v => (10 - v).toNat) (-1) ⟨by decide, by decide⟩ ⟨rfl, rfl, rfl, rfl, (by rw [cntV_start]; rfl), rfl, rfl, trivial⟩ (fun w h => h) (fun v hv => ?_); refine hold ?_))
     | (refine s_isw ?_; first
     | refine c_seq ?_
     | refine c_block ?_
     | refine c_region ?_
     | refine c_mixed mixed (by kernel_rfl) ?_
     | refine c_skip ?_
     | refine c_ret ?_
     | refine c_exit ?_
     | (refine s_iscond ?_; first
     | (refine c_true rfl (by first | with_reducible rfl | with_reducible assumption | ((with_reducible refine decide_eq_true ?_); first | with_reducible rfl | with_reducible assumption | omega)) ?_)
     | (refine c_false rfl (by first | with_reducible rfl | with_reducible assumption | ((with_reducible refine decide_eq_false ?_); first | with_reducible assumption | omega)) ?_)
     | (refine c_true rfl (by first | (simp only [Bool.not_eq_true', decide_eq_false_iff_not]; omega) | (with_reducible assumption) | (rw [decide_eq_false] <;> (first | omega | with_reducible rfl)) | (rw [decide_eq_true] <;> (first | omega | with_reducible rfl)) | (simp; done) | (simp; omega)) ?_)
     | (refine c_false rfl (by first | (simp only [Bool.not_eq_false', decide_eq_true_eq]; omega) | (with_reducible assumption) | (rw [decide_eq_false] <;> (first | omega | with_reducible rfl)) | (rw [decide_eq_true] <;> (first | omega | with_reducible rfl)) | (simp; done) | (simp; omega)) ?_)
     | refine c_cond rfl (fun hc => ?_) (fun hc => ?_)
     | refine c_condb rfl (fun hc => ?_) (fun hc => ?_)))
     | refine x_then ?_
     | refine x_then_ret ?_
     | refine x_then_exit ?_
     | refine x_block _ ?_
     | refine x_block_ret _ ?_
     | refine x_block_exit _ ?_
     | refine x_block_past (by decide) ?_
     | refine z_tailm ?_)
     | (refine z_isg1 ?_; first
     | refine z_skipu (by decide) rfl rfl ?_
     | (refine z_want1 rfl rfl (by first | with_reducible rfl | with_reducible assumption | ((with_reducible refine decide_eq_true ?_); first | with_reducible rfl | with_reducible assumption | omega)) ?_)
     | (refine z_skip1 (by decide) rfl rfl (by first | with_reducible rfl | with_reducible assumption | ((with_reducible refine decide_eq_false ?_); first | with_reducible assumption | omega)) ?_)
     | (refine z_want1 rfl rfl (by first | (simp only [Bool.not_eq_true', decide_eq_false_iff_not]; omega) | (with_reducible assumption) | (rw [decide_eq_false] <;> (first | omega | with_reducible rfl)) | (rw [decide_eq_true] <;> (first | omega | with_reducible rfl)) | (simp; done) | (simp; omega)) ?_)
     | (refine z_skip1 (by decide) rfl rfl (by first | (simp only [Bool.not_eq_false', decide_eq_true_eq]; omega) | (with_reducible assumption) | (rw [decide_eq_false] <;> (first | omega | with_reducible rfl)) | (rw [decide_eq_true] <;> (first | omega | with_reducible rfl)) | (simp; done) | (simp; omega)) ?_)
     | refine z_guard1 (by decide) rfl rfl (fun hc => ?_) (fun hc => ?_)
     | refine z_guardb (by decide) rfl rfl (fun hc => ?_) (fun hc => ?_))
     | (refine z_isg0 ?_; first
     | refine z_skipu (by decide) rfl rfl ?_
     | (refine z_want0 rfl rfl (by first | with_reducible rfl | with_reducible assumption | ((with_reducible refine decide_eq_false ?_); first | with_reducible assumption | omega)) ?_)
     | (refine z_skip0 (by decide) rfl rfl (by first | with_reducible rfl | with_reducible assumption | ((with_reducible refine decide_eq_true ?_); first | with_reducible rfl | with_reducible assumption | omega)) ?_)
     | (refine z_want0 rfl rfl (by first | (simp only [Bool.not_eq_false', decide_eq_true_eq]; omega) | (with_reducible assumption) | (rw [decide_eq_false] <;> (first | omega | with_reducible rfl)) | (rw [decide_eq_true] <;> (first | omega | with_reducible rfl)) | (simp; done) | (simp; omega)) ?_)
     | (refine z_skip0 (by decide) rfl rfl (by first | (simp only [Bool.not_eq_true', decide_eq_false_iff_not]; omega) | (with_reducible assumption) | (rw [decide_eq_false] <;> (first | omega | with_reducible rfl)) | (rw [decide_eq_true] <;> (first | omega | with_reducible rfl)) | (simp; done) | (simp; omega)) ?_)
     | refine z_guard0 (by decide) rfl rfl (fun hc => ?_) (fun hc => ?_)
     | refine z_guardb (by decide) rfl rfl (fun hc => ?_) (fun hc => ?_))
     | (refine z_isnil ?_; first
     | refine z_list ?_
     | refine z_mixed ?_
     | refine z_mono0 ?_
     | refine z_mono1 (by decide) fun g => ?_
     | refine z_mono2 (by decide) (by decide) fun g g' => ?_
     | refine z_mixedx ?_
     | refine z_quiet ?_)
     | (refine z_isop ?_; first
     | refine o_indexsn tabOk (hne0 (by omega)) rfl rfl rfl rfl (by omega) (by omega) (by decide) ?_
     | refine o_indexm tabOk rfl rfl rfl rfl (by omega) (by omega) (by decide) ?_
     | refine o_build0 (t := 102) (v := .agg Pe.zero.cs.toArray) (fun _ => by kernel_rfl) (by decide) ?_
     | refine o_build0 (t := 66) (v := .agg Pe.zero.cs.toArray) (fun _ => by kernel_rfl) (by decide) ?_
     | refine o_alloca (e := 102) (vs := Pe.zero.cs) rfl (by kernel_rfl) (by decide) fun g => ?_
     | refine o_alloca (e := 66) (vs := Pe.zero.cs) rfl (by kernel_rfl) (by decide) fun g => ?_
     | refine o_boxa rfl rfl (by decide) fun g => ?_
     | (refine z_isbin ?_; first
     | (refine z_isb .add ?_; first
     | refine o_add rfl rfl (by omega) (by omega) (by decide) ?_
     | refine o_addw rfl rfl (by decide) ?_)
     | (refine z_isb .eql ?_; first
     | refine o_eq rfl rfl (by decide) ?_
     | refine o_beq tabOk rfl rfl rfl (by decide) ?_
     | refine o_peq tabOk rfl rfl (by decide) ?_)
     | (refine z_isb .neq ?_; first
     | refine o_ne rfl rfl (by decide) ?_
     | refine o_bne tabOk rfl rfl rfl (by decide) ?_
     | refine o_pne tabOk rfl rfl (by decide) ?_)
     | (refine z_isb .lss ?_; first
     | refine o_lt rfl rfl (by decide) ?_)
     | (refine z_isb .leq ?_; first
     | refine o_le rfl rfl (by decide) ?_)
     | (refine z_isb .geq ?_; first
     | refine o_ge rfl rfl (by decide) ?_))
     | (refine z_isload ?_; first
     | (refine o_loadsw tabOk (Rds.cons _ (Rds.cons _ hrd)) rfl rfl rfl (es := d.cs) (dd_len _) (by rw [dd_len]; decide) (dd_at D d hd) (by decide) ?_)
     | refine o_loadp tabOk rfl rfl rfl 0 rfl (pe_len _) (tcs_el _ (by omega)) (by decide) ?_
     | refine o_loadp tabOk rfl rfl rfl 1 rfl (pe_len _) (tcs_el _ (by omega)) (by decide) ?_
     | (refine z_ld1 tabOk rfl rfl ?_; first
     | refine o_loadm tabOk rfl rfl rfl (by repeat' (first | exact List.mem_cons_self | apply List.mem_cons_of_mem)) (by first | exact tcs_s _ (by omega) | exact tcs_p _ (by omega) | exact tcs_u _ (by omega) | exact dd_k _ | exact dd_n _ | exact dd_u _ | exact i64p_at _ (by omega) | rfl) (by decide) ?_
     | refine o_loads tabOk (by first | assumption | exact Rds.cons _ (by assumption) | exact Rds.cons _ (Rds.cons _ (by assumption)) | exact own_rds 0 rfl | exact own_rds 1 rfl | exact own_rds 2 rfl) rfl rfl rfl (by first | exact tcs_s _ (by omega) | exact tcs_p _ (by omega) | exact tcs_u _ (by omega) | exact dd_k _ | exact dd_n _ | exact dd_u _ | exact i64p_at _ (by omega) | rfl) (by decide) ?_)
     | (refine z_ldw tabOk rfl rfl ?_; first
     | refine o_loadwm tabOk rfl rfl rfl (by repeat' (first | exact List.mem_cons_self | apply List.mem_cons_of_mem)) (by first | exact dd_len _ | (simp only [dd_len]) | rfl) (by decide) ?_))
     | (refine z_iscall ?_; first
     | ((refine z_iscallf 27 ?_; refine o_call Try.func27 rfl rfl rfl (does_c e hok _ _ d) (List.Perm.refl _) (by decide) fun _ _ => ?_))
     | ((refine z_iscallf 54 ?_; refine o_callr rfl Try.func54 rfl rfl rfl (in_c _ _ _ _ (by first | exact cells_rds 0 rfl | exact cells_rds 1 rfl | exact cells_rds 2 rfl)) (by decide) ?_))
     | ((refine z_iscallf 57 ?_; refine o_callr rfl Try.func57 rfl rfl rfl (ralive_c _ _ _ _ (by first | exact cells_rds 0 rfl | exact cells_rds 1 rfl | exact cells_rds 2 rfl)) (by decide) ?_))
     | ((refine z_iscallf 32 ?_; refine o_fn rfl Try.func32 rfl rfl rfl (awake_p) (by decide) ?_))
     | ((refine z_iscallf 25 ?_; refine o_calla Try.func25 rfl rfl rfl (new_c _) (by decide) fun g1 _ => ?_))
     | ((refine z_iscallf 26 ?_; refine o_calla Try.func26 rfl rfl rfl (rnew_c _) (by decide) fun g2 _ => ?_))
     | ((refine z_iscallf 28 ?_; refine o_callr rfl Try.func28 rfl rfl rfl (alive_c _ _ _ _ (cells_rds 1 rfl)) (by decide) ?_))
     | ((refine z_iscallf 29 ?_; refine o_callr rfl Try.func29 rfl rfl rfl (status_c _ _ _ _ (cells_rds 1 rfl)) (by decide) ?_))
     | ((refine z_iscallf 30 ?_; refine o_callr rfl Try.func30 rfl rfl rfl (parent_c _ _ _ _ (cells_rds 1 rfl)) (by decide) ?_))
     | ((refine z_iscallf 33 ?_; refine o_calla Try.func33 rfl rfl rfl (living_c _ _ _ (cells_rds 0 rfl)) (by decide) fun x _ => ?_)))
     | (refine z_ispick ?_; first
     | (refine o_pick1 rfl (by first | with_reducible rfl | with_reducible assumption | ((with_reducible refine decide_eq_true ?_); first | with_reducible rfl | with_reducible assumption | omega)) rfl (by decide) ?_)
     | (refine o_pick0 rfl (by first | with_reducible rfl | with_reducible assumption | ((with_reducible refine decide_eq_false ?_); first | with_reducible assumption | omega)) rfl (by decide) ?_)
     | (refine o_pick1 rfl (by first | (simp only [Bool.not_eq_true', decide_eq_false_iff_not]; omega) | (with_reducible assumption) | (rw [decide_eq_false] <;> (first | omega | with_reducible rfl)) | (rw [decide_eq_true] <;> (first | omega | with_reducible rfl)) | (simp; done) | (simp; omega)) rfl (by decide) ?_)
     | (refine o_pick0 rfl (by first | (simp only [Bool.not_eq_false', decide_eq_true_eq]; omega) | (with_reducible assumption) | (rw [decide_eq_false] <;> (first | omega | with_reducible rfl)) | (rw [decide_eq_true] <;> (first | omega | with_reducible rfl)) | (simp; done) | (simp; omega)) rfl (by decide) ?_))
     | (refine z_isix ?_; first
     | refine o_index0 tabOk rfl rfl rfl rfl (by omega) (by omega) (by decide) ?_
     | refine o_index1 tabOk rfl rfl rfl rfl (by omega) (by omega) (by decide) ?_
     | refine o_indexsk1 tabOk rfl rfl rfl rfl (by omega) (by omega) (by decide) ?_
     | refine o_indexsk tabOk rfl rfl rfl rfl (by omega) (by omega) (by decide) ?_
     | refine o_indexs1 tabOk (by first | exact hne (by omega) | assumption) rfl rfl rfl rfl (by omega) (by omega) (by decide) ?_)
     | (refine z_isbi ?_; first
     | refine o_len tabOk rfl rfl (by decide) ?_
     | refine o_min rfl rfl (by decide) ?_
     | refine o_max rfl rfl (by decide) ?_)
     | refine o_move rfl (by decide) ?_
     | refine o_assign rfl (by decide) ?_
     | refine o_nil rfl (by decide) ?_
     | refine o_extract rfl rfl (by decide) ?_
     | refine o_not rfl (by decide) ?_
     | refine o_field0 tabOk rfl rfl rfl rfl rfl (by decide) ?_
     | refine o_field tabOk rfl rfl rfl rfl rfl (by decide) ?_
     | refine o_conv tabOk rfl rfl rfl (by decide) ?_))
    refine Hold.go ?_
    obtain ⟨hv1, hv2⟩ := hv
    have hl7 := lvN_le e' 7
    by_cases hv : v < 10
    · have hcl := cntV_le e' v
      by_cases h8 : 1 ≤ v ∧ v ≤ 7
      · have hpa := pa_in hok' h8
        have hst := hok'.s v.toNat
        have hin := in_in (e := e') h8
        have hdn := dn_in (e := e') h8
        have e1 : (!(inB e' v == decide ((e' v.toNat).s = 1))) = false := by rw [hin]; simp
        have e2 : (!(dnB e' v == decide ((e' v.toNat).s = 2))) = false := by rw [hdn]; simp
        by_cases h1 : (e' v.toNat).s = 1
        · have hi1 : inB e' v = true := by rw [hin]; simp [h1]
          have hd1 : dnB e' v = false := by rw [hdn]; simp [h1]
          obtain ⟨hy1, hy2, hy3⟩ := cntV_yes hi1
          have hg3 : (lvN e' 7).getD ((cntV e' v : Int)).toNat 0 = v := by rw [Int.toNat_natCast]; exact hy3
          have hg4 : ((cntV e' v : Int)).toNat < (lvN e' 7).length := by rw [Int.toNat_natCast]; exact hy2
          repeat' (first
           | (refine s_is ?_; first
           | (refine s_isagain ?_; first
           | (exact c_again (v + 1) ⟨by omega, by omega⟩ (by omega) ⟨rfl, rfl, rfl, rfl, (by rw [hy1]; rfl), rfl, rfl, trivial⟩ (fun w h => h)))
           | (refine s_isw ?_; first
           | refine c_seq ?_
           | refine c_block ?_
           | refine c_region ?_
           | refine c_mixed mixed (by kernel_rfl) ?_
           | refine c_skip ?_
           | refine c_ret ?_
           | refine c_exit ?_
           | (refine s_iscond ?_; first
           | (refine c_true rfl (by first | with_reducible rfl | with_reducible assumption | ((with_reducible refine decide_eq_true ?_); first | with_reducible rfl | with_reducible assumption | omega)) ?_)
           | (refine c_false rfl (by first | with_reducible rfl | with_reducible assumption | ((with_reducible refine decide_eq_false ?_); first | with_reducible assumption | omega)) ?_)
           | (refine c_true rfl (by first | (simp only [Bool.not_eq_true', decide_eq_false_iff_not]; omega) | (with_reducible assumption) | (rw [decide_eq_false] <;> (first | omega | with_reducible rfl)) | (rw [decide_eq_true] <;> (first | omega | with_reducible rfl)) | (simp; done) | (simp; omega)) ?_)
           | (refine c_false rfl (by first | (simp only [Bool.not_eq_false', decide_eq_true_eq]; omega) | (with_reducible assumption) | (rw [decide_eq_false] <;> (first | omega | with_reducible rfl)) | (rw [decide_eq_true] <;> (first | omega | with_reducible rfl)) | (simp; done) | (simp; omega)) ?_)
           | refine c_cond rfl (fun hc => ?_) (fun hc => ?_)
           | refine c_condb rfl (fun hc => ?_) (fun hc => ?_)))
           | refine x_then ?_
           | refine x_then_ret ?_
           | refine x_then_exit ?_
           | refine x_block _ ?_
           | refine x_block_ret _ ?_
           | refine x_block_exit _ ?_
           | refine x_block_past (by decide) ?_
           | refine z_tailm ?_)
           | (refine z_isg1 ?_; first
           | refine z_skipu (by decide) rfl rfl ?_
           | (refine z_want1 rfl rfl (by first | with_reducible rfl | with_reducible assumption | ((with_reducible refine decide_eq_true ?_); first | with_reducible rfl | with_reducible assumption | omega)) ?_)
           | (refine z_skip1 (by decide) rfl rfl (by first | with_reducible rfl | with_reducible assumption | ((with_reducible refine decide_eq_false ?_); first | with_reducible assumption | omega)) ?_)
           | (refine z_want1 rfl rfl (by first | (simp only [Bool.not_eq_true', decide_eq_false_iff_not]; omega) | (with_reducible assumption) | (rw [decide_eq_false] <;> (first | omega | with_reducible rfl)) | (rw [decide_eq_true] <;> (first | omega | with_reducible rfl)) | (simp; done) | (simp; omega)) ?_)
           | (refine z_skip1 (by decide) rfl rfl (by first | (simp only [Bool.not_eq_false', decide_eq_true_eq]; omega) | (with_reducible assumption) | (rw [decide_eq_false] <;> (first | omega | with_reducible rfl)) | (rw [decide_eq_true] <;> (first | omega | with_reducible rfl)) | (simp; done) | (simp; omega)) ?_)
           | refine z_guard1 (by decide) rfl rfl (fun hc => ?_) (fun hc => ?_)
           | refine z_guardb (by decide) rfl rfl (fun hc => ?_) (fun hc => ?_))
           | (refine z_isg0 ?_; first
           | refine z_skipu (by decide) rfl rfl ?_
           | (refine z_want0 rfl rfl (by first | with_reducible rfl | with_reducible assumption | ((with_reducible refine decide_eq_false ?_); first | with_reducible assumption | omega)) ?_)
           | (refine z_skip0 (by decide) rfl rfl (by first | with_reducible rfl | with_reducible assumption | ((with_reducible refine decide_eq_true ?_); first | with_reducible rfl | with_reducible assumption | omega)) ?_)
           | (refine z_want0 rfl rfl (by first | (simp only [Bool.not_eq_false', decide_eq_true_eq]; omega) | (with_reducible assumption) | (rw [decide_eq_false] <;> (first | omega | with_reducible rfl)) | (rw [decide_eq_true] <;> (first | omega | with_reducible rfl)) | (simp; done) | (simp; omega)) ?_)
           | (refine z_skip0 (by decide) rfl rfl (by first | (simp only [Bool.not_eq_true', decide_eq_false_iff_not]; omega) | (with_reducible assumption) | (rw [decide_eq_false] <;> (first | omega | with_reducible rfl)) | (rw [decide_eq_true] <;> (first | omega | with_reducible rfl)) | (simp; done) | (simp; omega)) ?_)
           | refine z_guard0 (by decide) rfl rfl (fun hc => ?_) (fun hc => ?_)
           | refine z_guardb (by decide) rfl rfl (fun hc => ?_) (fun hc => ?_))
           | (refine z_isnil ?_; first
           | refine z_list ?_
           | refine z_mixed ?_
           | refine z_mono0 ?_
           | refine z_mono1 (by decide) fun g => ?_
           | refine z_mono2 (by decide) (by decide) fun g g' => ?_
           | refine z_mixedx ?_
           | refine z_quiet ?_)
           | (refine z_isop ?_; first
           | refine o_indexm tabOk rfl rfl rfl rfl (by omega) (by omega) (by decide) ?_
           | refine o_build0 (t := 102) (v := .agg Pe.zero.cs.toArray) (fun _ => by kernel_rfl) (by decide) ?_
           | refine o_build0 (t := 66) (v := .agg Pe.zero.cs.toArray) (fun _ => by kernel_rfl) (by decide) ?_
           | refine o_alloca (e := 102) (vs := Pe.zero.cs) rfl (by kernel_rfl) (by decide) fun g => ?_
           | refine o_alloca (e := 66) (vs := Pe.zero.cs) rfl (by kernel_rfl) (by decide) fun g => ?_
           | refine o_boxa rfl rfl (by decide) fun g => ?_
           | (refine z_isbin ?_; first
           | (refine z_isb .add ?_; first
           | refine o_add rfl rfl (by omega) (by omega) (by decide) ?_
           | refine o_addw rfl rfl (by decide) ?_)
           | (refine z_isb .eql ?_; first
           | refine o_eq rfl rfl (by decide) ?_
           | refine o_beq tabOk rfl rfl rfl (by decide) ?_
           | refine o_peq tabOk rfl rfl (by decide) ?_)
           | (refine z_isb .neq ?_; first
           | refine o_ne rfl rfl (by decide) ?_
           | refine o_bne tabOk rfl rfl rfl (by decide) ?_
           | refine o_pne tabOk rfl rfl (by decide) ?_)
           | (refine z_isb .lss ?_; first
           | refine o_lt rfl rfl (by decide) ?_)
           | (refine z_isb .leq ?_; first
           | refine o_le rfl rfl (by decide) ?_)
           | (refine z_isb .geq ?_; first
           | refine o_ge rfl rfl (by decide) ?_))
           | (refine z_isload ?_; first
           | refine o_loadp tabOk rfl rfl rfl 0 rfl (pe_len _) (tcs_el _ (by omega)) (by decide) ?_
           | refine o_loadp tabOk rfl rfl rfl 1 rfl (pe_len _) (tcs_el _ (by omega)) (by decide) ?_
           | (refine z_ld1 tabOk rfl rfl ?_; first
           | refine o_loadm tabOk rfl rfl rfl (by repeat' (first | exact List.mem_cons_self | apply List.mem_cons_of_mem)) (by first | exact tcs_s _ (by omega) | exact tcs_p _ (by omega) | exact tcs_u _ (by omega) | exact dd_k _ | exact dd_n _ | exact dd_u _ | exact i64p_at _ (by omega) | rfl) (by decide) ?_
           | refine o_loads tabOk (by first | assumption | exact Rds.cons _ (by assumption) | exact Rds.cons _ (Rds.cons _ (by assumption)) | exact own_rds 0 rfl | exact own_rds 1 rfl | exact own_rds 2 rfl) rfl rfl rfl (by first | exact tcs_s _ (by omega) | exact tcs_p _ (by omega) | exact tcs_u _ (by omega) | exact dd_k _ | exact dd_n _ | exact dd_u _ | exact i64p_at _ (by omega) | rfl) (by decide) ?_)
           | (refine z_ldw tabOk rfl rfl ?_; first
           | refine o_loadwm tabOk rfl rfl rfl (by repeat' (first | exact List.mem_cons_self | apply List.mem_cons_of_mem)) (by first | exact dd_len _ | (simp only [dd_len]) | rfl) (by decide) ?_))
           | (refine z_iscall ?_; first
           | ((refine z_iscallf 54 ?_; refine o_callr rfl Try.func54 rfl rfl rfl (in_c _ _ _ _ (by first | exact cells_rds 0 rfl | exact cells_rds 1 rfl | exact cells_rds 2 rfl)) (by decide) ?_))
           | ((refine z_iscallf 57 ?_; refine o_callr rfl Try.func57 rfl rfl rfl (ralive_c _ _ _ _ (by first | exact cells_rds 0 rfl | exact cells_rds 1 rfl | exact cells_rds 2 rfl)) (by decide) ?_))
           | ((refine z_iscallf 32 ?_; refine o_fn rfl Try.func32 rfl rfl rfl (awake_p) (by decide) ?_))
           | ((refine z_iscallf 25 ?_; refine o_calla Try.func25 rfl rfl rfl (new_c _) (by decide) fun g1 _ => ?_))
           | ((refine z_iscallf 26 ?_; refine o_calla Try.func26 rfl rfl rfl (rnew_c _) (by decide) fun g2 _ => ?_))
           | ((refine z_iscallf 28 ?_; refine o_callr rfl Try.func28 rfl rfl rfl (alive_c _ _ _ _ (cells_rds 1 rfl)) (by decide) ?_))
           | ((refine z_iscallf 29 ?_; refine o_callr rfl Try.func29 rfl rfl rfl (status_c _ _ _ _ (cells_rds 1 rfl)) (by decide) ?_))
           | ((refine z_iscallf 30 ?_; refine o_callr rfl Try.func30 rfl rfl rfl (parent_c _ _ _ _ (cells_rds 1 rfl)) (by decide) ?_))
           | ((refine z_iscallf 33 ?_; refine o_calla Try.func33 rfl rfl rfl (living_c _ _ _ (cells_rds 0 rfl)) (by decide) fun x _ => ?_)))
           | (refine z_ispick ?_; first
           | (refine o_pick1 rfl (by first | with_reducible rfl | with_reducible assumption | ((with_reducible refine decide_eq_true ?_); first | with_reducible rfl | with_reducible assumption | omega)) rfl (by decide) ?_)
           | (refine o_pick0 rfl (by first | with_reducible rfl | with_reducible assumption | ((with_reducible refine decide_eq_false ?_); first | with_reducible assumption | omega)) rfl (by decide) ?_)
           | (refine o_pick1 rfl (by first | (simp only [Bool.not_eq_true', decide_eq_false_iff_not]; omega) | (with_reducible assumption) | (rw [decide_eq_false] <;> (first | omega | with_reducible rfl)) | (rw [decide_eq_true] <;> (first | omega | with_reducible rfl)) | (simp; done) | (simp; omega)) rfl (by decide) ?_)
           | (refine o_pick0 rfl (by first | (simp only [Bool.not_eq_false', decide_eq_true_eq]; omega) | (with_reducible assumption) | (rw [decide_eq_false] <;> (first | omega | with_reducible rfl)) | (rw [decide_eq_true] <;> (first | omega | with_reducible rfl)) | (simp; done) | (simp; omega)) rfl (by decide) ?_))
           | (refine z_isix ?_; first
           | refine o_index0 tabOk rfl rfl rfl rfl (by omega) (by omega) (by decide) ?_
           | refine o_index1 tabOk rfl rfl rfl rfl (by omega) (by omega) (by decide) ?_
           | refine o_indexsk1 tabOk rfl rfl rfl rfl (by omega) (by omega) (by decide) ?_
           | refine o_indexsk tabOk rfl rfl rfl rfl (by omega) (by omega) (by decide) ?_
           | refine o_indexs1 tabOk (by first | exact hne (by omega) | assumption) rfl rfl rfl rfl (by omega) (by omega) (by decide) ?_)
           | (refine z_isbi ?_; first
           | refine o_len tabOk rfl rfl (by decide) ?_
           | refine o_min rfl rfl (by decide) ?_
           | refine o_max rfl rfl (by decide) ?_)
           | refine o_move rfl (by decide) ?_
           | refine o_assign rfl (by decide) ?_
           | refine o_nil rfl (by decide) ?_
           | refine o_extract rfl rfl (by decide) ?_
           | refine o_not rfl (by decide) ?_
           | refine o_field0 tabOk rfl rfl rfl rfl rfl (by decide) ?_
           | refine o_field tabOk rfl rfl rfl rfl rfl (by decide) ?_
           | refine o_conv tabOk rfl rfl rfl (by decide) ?_))
        · have hi1 : inB e' v = false := by rw [hin]; simp [h1]
          have hcc := cntV_no hi1
          by_cases h2 : (e' v.toNat).s = 2
          · have hd1 : dnB e' v = true := by rw [hdn]; simp [h2]
            have hsv : stV e' v = (e' v.toNat).u := by unfold stV; rw [if_pos hd1]
            repeat' (first
             | (refine s_is ?_; first
             | (refine s_isagain ?_; first
             | (exact c_again (v + 1) ⟨by omega, by omega⟩ (by omega) ⟨rfl, rfl, rfl, rfl, (by rw [hcc]; rfl), rfl, rfl, trivial⟩ (fun w h => h)))
             | (refine s_isw ?_; first
             | refine c_seq ?_
             | refine c_block ?_
             | refine c_region ?_
             | refine c_mixed mixed (by kernel_rfl) ?_
             | refine c_skip ?_
             | refine c_ret ?_
             | refine c_exit ?_
             | (refine s_iscond ?_; first
             | (refine c_true rfl (by first | with_reducible rfl | with_reducible assumption | ((with_reducible refine decide_eq_true ?_); first | with_reducible rfl | with_reducible assumption | omega)) ?_)
             | (refine c_false rfl (by first | with_reducible rfl | with_reducible assumption | ((with_reducible refine decide_eq_false ?_); first | with_reducible assumption | omega)) ?_)
             | (refine c_true rfl (by first | (simp only [Bool.not_eq_true', decide_eq_false_iff_not]; omega) | (with_reducible assumption) | (rw [decide_eq_false] <;> (first | omega | with_reducible rfl)) | (rw [decide_eq_true] <;> (first | omega | with_reducible rfl)) | (simp; done) | (simp; omega)) ?_)
             | (refine c_false rfl (by first | (simp only [Bool.not_eq_false', decide_eq_true_eq]; omega) | (with_reducible assumption) | (rw [decide_eq_false] <;> (first | omega | with_reducible rfl)) | (rw [decide_eq_true] <;> (first | omega | with_reducible rfl)) | (simp; done) | (simp; omega)) ?_)
             | refine c_cond rfl (fun hc => ?_) (fun hc => ?_)
             | refine c_condb rfl (fun hc => ?_) (fun hc => ?_)))
             | refine x_then ?_
             | refine x_then_ret ?_
             | refine x_then_exit ?_
             | refine x_block _ ?_
             | refine x_block_ret _ ?_
             | refine x_block_exit _ ?_
             | refine x_block_past (by decide) ?_
             | refine z_tailm ?_)
             | (refine z_isg1 ?_; first
             | refine z_skipu (by decide) rfl rfl ?_
             | (refine z_want1 rfl rfl (by first | with_reducible rfl | with_reducible assumption | ((with_reducible refine decide_eq_true ?_); first | with_reducible rfl | with_reducible assumption | omega)) ?_)
             | (refine z_skip1 (by decide) rfl rfl (by first | with_reducible rfl | with_reducible assumption | ((with_reducible refine decide_eq_false ?_); first | with_reducible assumption | omega)) ?_)
             | (refine z_want1 rfl rfl (by first | (simp only [Bool.not_eq_true', decide_eq_false_iff_not]; omega) | (with_reducible assumption) | (rw [decide_eq_false] <;> (first | omega | with_reducible rfl)) | (rw [decide_eq_true] <;> (first | omega | with_reducible rfl)) | (simp; done) | (simp; omega)) ?_)
             | (refine z_skip1 (by decide) rfl rfl (by first | (simp only [Bool.not_eq_false', decide_eq_true_eq]; omega) | (with_reducible assumption) | (rw [decide_eq_false] <;> (first | omega | with_reducible rfl)) | (rw [decide_eq_true] <;> (first | omega | with_reducible rfl)) | (simp; done) | (simp; omega)) ?_)
             | refine z_guard1 (by decide) rfl rfl (fun hc => ?_) (fun hc => ?_)
             | refine z_guardb (by decide) rfl rfl (fun hc => ?_) (fun hc => ?_))
             | (refine z_isg0 ?_; first
             | refine z_skipu (by decide) rfl rfl ?_
             | (refine z_want0 rfl rfl (by first | with_reducible rfl | with_reducible assumption | ((with_reducible refine decide_eq_false ?_); first | with_reducible assumption | omega)) ?_)
             | (refine z_skip0 (by decide) rfl rfl (by first | with_reducible rfl | with_reducible assumption | ((with_reducible refine decide_eq_true ?_); first | with_reducible rfl | with_reducible assumption | omega)) ?_)
             | (refine z_want0 rfl rfl (by first | (simp only [Bool.not_eq_false', decide_eq_true_eq]; omega) | (with_reducible assumption) | (rw [decide_eq_false] <;> (first | omega | with_reducible rfl)) | (rw [decide_eq_true] <;> (first | omega | with_reducible rfl)) | (simp; done) | (simp; omega)) ?_)
             | (refine z_skip0 (by decide) rfl rfl (by first | (simp only [Bool.not_eq_true', decide_eq_false_iff_not]; omega) | (with_reducible assumption) | (rw [decide_eq_false] <;> (first | omega | with_reducible rfl)) | (rw [decide_eq_true] <;> (first | omega | with_reducible rfl)) | (simp; done) | (simp; omega)) ?_)
             | refine z_guard0 (by decide) rfl rfl (fun hc => ?_) (fun hc => ?_)
             | refine z_guardb (by decide) rfl rfl (fun hc => ?_) (fun hc => ?_))
             | (refine z_isnil ?_; first
             | refine z_list ?_
             | refine z_mixed ?_
             | refine z_mono0 ?_
             | refine z_mono1 (by decide) fun g => ?_
             | refine z_mono2 (by decide) (by decide) fun g g' => ?_
             | refine z_mixedx ?_
             | refine z_quiet ?_)
             | (refine z_isop ?_; first
             | refine o_indexm tabOk rfl rfl rfl rfl (by omega) (by omega) (by decide) ?_
             | refine o_build0 (t := 102) (v := .agg Pe.zero.cs.toArray) (fun _ => by kernel_rfl) (by decide) ?_
             | refine o_build0 (t := 66) (v := .agg Pe.zero.cs.toArray) (fun _ => by kernel_rfl) (by decide) ?_
             | refine o_alloca (e := 102) (vs := Pe.zero.cs) rfl (by kernel_rfl) (by decide) fun g => ?_
             | refine o_alloca (e := 66) (vs := Pe.zero.cs) rfl (by kernel_rfl) (by decide) fun g => ?_
             | refine o_boxa rfl rfl (by decide) fun g => ?_
             | (refine z_isbin ?_; first
             | (refine z_isb .add ?_; first
             | refine o_add rfl rfl (by omega) (by omega) (by decide) ?_
             | refine o_addw rfl rfl (by decide) ?_)
             | (refine z_isb .eql ?_; first
             | refine o_eq rfl rfl (by decide) ?_
             | refine o_beq tabOk rfl rfl rfl (by decide) ?_
             | refine o_peq tabOk rfl rfl (by decide) ?_)
             | (refine z_isb .neq ?_; first
             | refine o_ne rfl rfl (by decide) ?_
             | refine o_bne tabOk rfl rfl rfl (by decide) ?_
             | refine o_pne tabOk rfl rfl (by decide) ?_)
             | (refine z_isb .lss ?_; first
             | refine o_lt rfl rfl (by decide) ?_)
             | (refine z_isb .leq ?_; first
             | refine o_le rfl rfl (by decide) ?_)
             | (refine z_isb .geq ?_; first
             | refine o_ge rfl rfl (by decide) ?_))
             | (refine z_isload ?_; first
             | refine o_loadp tabOk rfl rfl rfl 0 rfl (pe_len _) (tcs_el _ (by omega)) (by decide) ?_
             | refine o_loadp tabOk rfl rfl rfl 1 rfl (pe_len _) (tcs_el _ (by omega)) (by decide) ?_
             | (refine z_ld1 tabOk rfl rfl ?_; first
             | refine o_loadm tabOk rfl rfl rfl (by repeat' (first | exact List.mem_cons_self | apply List.mem_cons_of_mem)) (by first | exact tcs_s _ (by omega) | exact tcs_p _ (by omega) | exact tcs_u _ (by omega) | exact dd_k _ | exact dd_n _ | exact dd_u _ | exact i64p_at _ (by omega) | rfl) (by decide) ?_
             | refine o_loads tabOk (by first | assumption | exact Rds.cons _ (by assumption) | exact Rds.cons _ (Rds.cons _ (by assumption)) | exact own_rds 0 rfl | exact own_rds 1 rfl | exact own_rds 2 rfl) rfl rfl rfl (by first | exact tcs_s _ (by omega) | exact tcs_p _ (by omega) | exact tcs_u _ (by omega) | exact dd_k _ | exact dd_n _ | exact dd_u _ | exact i64p_at _ (by omega) | rfl) (by decide) ?_)
             | (refine z_ldw tabOk rfl rfl ?_; first
             | refine o_loadwm tabOk rfl rfl rfl (by repeat' (first | exact List.mem_cons_self | apply List.mem_cons_of_mem)) (by first | exact dd_len _ | (simp only [dd_len]) | rfl) (by decide) ?_))
             | (refine z_iscall ?_; first
             | ((refine z_iscallf 54 ?_; refine o_callr rfl Try.func54 rfl rfl rfl (in_c _ _ _ _ (by first | exact cells_rds 0 rfl | exact cells_rds 1 rfl | exact cells_rds 2 rfl)) (by decide) ?_))
             | ((refine z_iscallf 57 ?_; refine o_callr rfl Try.func57 rfl rfl rfl (ralive_c _ _ _ _ (by first | exact cells_rds 0 rfl | exact cells_rds 1 rfl | exact cells_rds 2 rfl)) (by decide) ?_))
             | ((refine z_iscallf 32 ?_; refine o_fn rfl Try.func32 rfl rfl rfl (awake_p) (by decide) ?_))
             | ((refine z_iscallf 25 ?_; refine o_calla Try.func25 rfl rfl rfl (new_c _) (by decide) fun g1 _ => ?_))
             | ((refine z_iscallf 26 ?_; refine o_calla Try.func26 rfl rfl rfl (rnew_c _) (by decide) fun g2 _ => ?_))
             | ((refine z_iscallf 28 ?_; refine o_callr rfl Try.func28 rfl rfl rfl (alive_c _ _ _ _ (cells_rds 1 rfl)) (by decide) ?_))
             | ((refine z_iscallf 29 ?_; refine o_callr rfl Try.func29 rfl rfl rfl (status_c _ _ _ _ (cells_rds 1 rfl)) (by decide) ?_))
             | ((refine z_iscallf 30 ?_; refine o_callr rfl Try.func30 rfl rfl rfl (parent_c _ _ _ _ (cells_rds 1 rfl)) (by decide) ?_))
             | ((refine z_iscallf 33 ?_; refine o_calla Try.func33 rfl rfl rfl (living_c _ _ _ (cells_rds 0 rfl)) (by decide) fun x _ => ?_)))
             | (refine z_ispick ?_; first
             | (refine o_pick1 rfl (by first | with_reducible rfl | with_reducible assumption | ((with_reducible refine decide_eq_true ?_); first | with_reducible rfl | with_reducible assumption | omega)) rfl (by decide) ?_)
             | (refine o_pick0 rfl (by first | with_reducible rfl | with_reducible assumption | ((with_reducible refine decide_eq_false ?_); first | with_reducible assumption | omega)) rfl (by decide) ?_)
             | (refine o_pick1 rfl (by first | (simp only [Bool.not_eq_true', decide_eq_false_iff_not]; omega) | (with_reducible assumption) | (rw [decide_eq_false] <;> (first | omega | with_reducible rfl)) | (rw [decide_eq_true] <;> (first | omega | with_reducible rfl)) | (simp; done) | (simp; omega)) rfl (by decide) ?_)
             | (refine o_pick0 rfl (by first | (simp only [Bool.not_eq_false', decide_eq_true_eq]; omega) | (with_reducible assumption) | (rw [decide_eq_false] <;> (first | omega | with_reducible rfl)) | (rw [decide_eq_true] <;> (first | omega | with_reducible rfl)) | (simp; done) | (simp; omega)) rfl (by decide) ?_))
             | (refine z_isix ?_; first
             | refine o_index0 tabOk rfl rfl rfl rfl (by omega) (by omega) (by decide) ?_
             | refine o_index1 tabOk rfl rfl rfl rfl (by omega) (by omega) (by decide) ?_
             | refine o_indexsk1 tabOk rfl rfl rfl rfl (by omega) (by omega) (by decide) ?_
             | refine o_indexsk tabOk rfl rfl rfl rfl (by omega) (by omega) (by decide) ?_
             | refine o_indexs1 tabOk (by first | exact hne (by omega) | assumption) rfl rfl rfl rfl (by omega) (by omega) (by decide) ?_)
             | (refine z_isbi ?_; first
             | refine o_len tabOk rfl rfl (by decide) ?_
             | refine o_min rfl rfl (by decide) ?_
             | refine o_max rfl rfl (by decide) ?_)
             | refine o_move rfl (by decide) ?_
             | refine o_assign rfl (by decide) ?_
             | refine o_nil rfl (by decide) ?_
             | refine o_extract rfl rfl (by decide) ?_
             | refine o_not rfl (by decide) ?_
             | refine o_field0 tabOk rfl rfl rfl rfl rfl (by decide) ?_
             | refine o_field tabOk rfl rfl rfl rfl rfl (by decide) ?_
             | refine o_conv tabOk rfl rfl rfl (by decide) ?_))
          · have hd1 : dnB e' v = false := by rw [hdn]; simp [h2]
            repeat' (first
             | (refine s_is ?_; first
             | (refine s_isagain ?_; first
             | (exact c_again (v + 1) ⟨by omega, by omega⟩ (by omega) ⟨rfl, rfl, rfl, rfl, (by rw [hcc]; rfl), rfl, rfl, trivial⟩ (fun w h => h)))
             | (refine s_isw ?_; first
             | refine c_seq ?_
             | refine c_block ?_
             | refine c_region ?_
             | refine c_mixed mixed (by kernel_rfl) ?_
             | refine c_skip ?_
             | refine c_ret ?_
             | refine c_exit ?_
             | (refine s_iscond ?_; first
             | (refine c_true rfl (by first | with_reducible rfl | with_reducible assumption | ((with_reducible refine decide_eq_true ?_); first | with_reducible rfl | with_reducible assumption | omega)) ?_)
             | (refine c_false rfl (by first | with_reducible rfl | with_reducible assumption | ((with_reducible refine decide_eq_false ?_); first | with_reducible assumption | omega)) ?_)
             | (refine c_true rfl (by first | (simp only [Bool.not_eq_true', decide_eq_false_iff_not]; omega) | (with_reducible assumption) | (rw [decide_eq_false] <;> (first | omega | with_reducible rfl)) | (rw [decide_eq_true] <;> (first | omega | with_reducible rfl)) | (simp; done) | (simp; omega)) ?_)
             | (refine c_false rfl (by first | (simp only [Bool.not_eq_false', decide_eq_true_eq]; omega) | (with_reducible assumption) | (rw [decide_eq_false] <;> (first | omega | with_reducible rfl)) | (rw [decide_eq_true] <;> (first | omega | with_reducible rfl)) | (simp; done) | (simp; omega)) ?_)
             | refine c_cond rfl (fun hc => ?_) (fun hc => ?_)
             | refine c_condb rfl (fun hc => ?_) (fun hc => ?_)))
             | refine x_then ?_
             | refine x_then_ret ?_
             | refine x_then_exit ?_
             | refine x_block _ ?_
             | refine x_block_ret _ ?_
             | refine x_block_exit _ ?_
             | refine x_block_past (by decide) ?_
             | refine z_tailm ?_)
             | (refine z_isg1 ?_; first
             | refine z_skipu (by decide) rfl rfl ?_
             | (refine z_want1 rfl rfl (by first | with_reducible rfl | with_reducible assumption | ((with_reducible refine decide_eq_true ?_); first | with_reducible rfl | with_reducible assumption | omega)) ?_)
             | (refine z_skip1 (by decide) rfl rfl (by first | with_reducible rfl | with_reducible assumption | ((with_reducible refine decide_eq_false ?_); first | with_reducible assumption | omega)) ?_)
             | (refine z_want1 rfl rfl (by first | (simp only [Bool.not_eq_true', decide_eq_false_iff_not]; omega) | (with_reducible assumption) | (rw [decide_eq_false] <;> (first | omega | with_reducible rfl)) | (rw [decide_eq_true] <;> (first | omega | with_reducible rfl)) | (simp; done) | (simp; omega)) ?_)
             | (refine z_skip1 (by decide) rfl rfl (by first | (simp only [Bool.not_eq_false', decide_eq_true_eq]; omega) | (with_reducible assumption) | (rw [decide_eq_false] <;> (first | omega | with_reducible rfl)) | (rw [decide_eq_true] <;> (first | omega | with_reducible rfl)) | (simp; done) | (simp; omega)) ?_)
             | refine z_guard1 (by decide) rfl rfl (fun hc => ?_) (fun hc => ?_)
             | refine z_guardb (by decide) rfl rfl (fun hc => ?_) (fun hc => ?_))
             | (refine z_isg0 ?_; first
             | refine z_skipu (by decide) rfl rfl ?_
             | (refine z_want0 rfl rfl (by first | with_reducible rfl | with_reducible assumption | ((with_reducible refine decide_eq_false ?_); first | with_reducible assumption | omega)) ?_)
             | (refine z_skip0 (by decide) rfl rfl (by first | with_reducible rfl | with_reducible assumption | ((with_reducible refine decide_eq_true ?_); first | with_reducible rfl | with_reducible assumption | omega)) ?_)
             | (refine z_want0 rfl rfl (by first | (simp only [Bool.not_eq_false', decide_eq_true_eq]; omega) | (with_reducible assumption) | (rw [decide_eq_false] <;> (first | omega | with_reducible rfl)) | (rw [decide_eq_true] <;> (first | omega | with_reducible rfl)) | (simp; done) | (simp; omega)) ?_)
             | (refine z_skip0 (by decide) rfl rfl (by first | (simp only [Bool.not_eq_true', decide_eq_false_iff_not]; omega) | (with_reducible assumption) | (rw [decide_eq_false] <;> (first | omega | with_reducible rfl)) | (rw [decide_eq_true] <;> (first | omega | with_reducible rfl)) | (simp; done) | (simp; omega)) ?_)
             | refine z_guard0 (by decide) rfl rfl (fun hc => ?_) (fun hc => ?_)
             | refine z_guardb (by decide) rfl rfl (fun hc => ?_) (fun hc => ?_))
             | (refine z_isnil ?_; first
             | refine z_list ?_
             | refine z_mixed ?_
             | refine z_mono0 ?_
             | refine z_mono1 (by decide) fun g => ?_
             | refine z_mono2 (by decide) (by decide) fun g g' => ?_
             | refine z_mixedx ?_
             | refine z_quiet ?_)
             | (refine z_isop ?_; first
             | refine o_indexm tabOk rfl rfl rfl rfl (by omega) (by omega) (by decide) ?_
             | refine o_build0 (t := 102) (v := .agg Pe.zero.cs.toArray) (fun _ => by kernel_rfl) (by decide) ?_
             | refine o_build0 (t := 66) (v := .agg Pe.zero.cs.toArray) (fun _ => by kernel_rfl) (by decide) ?_
             | refine o_alloca (e := 102) (vs := Pe.zero.cs) rfl (by kernel_rfl) (by decide) fun g => ?_
             | refine o_alloca (e := 66) (vs := Pe.zero.cs) rfl (by kernel_rfl) (by decide) fun g => ?_
             | refine o_boxa rfl rfl (by decide) fun g => ?_
             | (refine z_isbin ?_; first
             | (refine z_isb .add ?_; first
             | refine o_add rfl rfl (by omega) (by omega) (by decide) ?_
             | refine o_addw rfl rfl (by decide) ?_)
             | (refine z_isb .eql ?_; first
             | refine o_eq rfl rfl (by decide) ?_
             | refine o_beq tabOk rfl rfl rfl (by decide) ?_
             | refine o_peq tabOk rfl rfl (by decide) ?_)
             | (refine z_isb .neq ?_; first
             | refine o_ne rfl rfl (by decide) ?_
             | refine o_bne tabOk rfl rfl rfl (by decide) ?_
             | refine o_pne tabOk rfl rfl (by decide) ?_)
             | (refine z_isb .lss ?_; first
             | refine o_lt rfl rfl (by decide) ?_)
             | (refine z_isb .leq ?_; first
             | refine o_le rfl rfl (by decide) ?_)
             | (refine z_isb .geq ?_; first
             | refine o_ge rfl rfl (by decide) ?_))
             | (refine z_isload ?_; first
             | refine o_loadp tabOk rfl rfl rfl 0 rfl (pe_len _) (tcs_el _ (by omega)) (by decide) ?_
             | refine o_loadp tabOk rfl rfl rfl 1 rfl (pe_len _) (tcs_el _ (by omega)) (by decide) ?_
             | (refine z_ld1 tabOk rfl rfl ?_; first
             | refine o_loadm tabOk rfl rfl rfl (by repeat' (first | exact List.mem_cons_self | apply List.mem_cons_of_mem)) (by first | exact tcs_s _ (by omega) | exact tcs_p _ (by omega) | exact tcs_u _ (by omega) | exact dd_k _ | exact dd_n _ | exact dd_u _ | exact i64p_at _ (by omega) | rfl) (by decide) ?_
             | refine o_loads tabOk (by first | assumption | exact Rds.cons _ (by assumption) | exact Rds.cons _ (Rds.cons _ (by assumption)) | exact own_rds 0 rfl | exact own_rds 1 rfl | exact own_rds 2 rfl) rfl rfl rfl (by first | exact tcs_s _ (by omega) | exact tcs_p _ (by omega) | exact tcs_u _ (by omega) | exact dd_k _ | exact dd_n _ | exact dd_u _ | exact i64p_at _ (by omega) | rfl) (by decide) ?_)
             | (refine z_ldw tabOk rfl rfl ?_; first
             | refine o_loadwm tabOk rfl rfl rfl (by repeat' (first | exact List.mem_cons_self | apply List.mem_cons_of_mem)) (by first | exact dd_len _ | (simp only [dd_len]) | rfl) (by decide) ?_))
             | (refine z_iscall ?_; first
             | ((refine z_iscallf 54 ?_; refine o_callr rfl Try.func54 rfl rfl rfl (in_c _ _ _ _ (by first | exact cells_rds 0 rfl | exact cells_rds 1 rfl | exact cells_rds 2 rfl)) (by decide) ?_))
             | ((refine z_iscallf 57 ?_; refine o_callr rfl Try.func57 rfl rfl rfl (ralive_c _ _ _ _ (by first | exact cells_rds 0 rfl | exact cells_rds 1 rfl | exact cells_rds 2 rfl)) (by decide) ?_))
             | ((refine z_iscallf 32 ?_; refine o_fn rfl Try.func32 rfl rfl rfl (awake_p) (by decide) ?_))
             | ((refine z_iscallf 25 ?_; refine o_calla Try.func25 rfl rfl rfl (new_c _) (by decide) fun g1 _ => ?_))
             | ((refine z_iscallf 26 ?_; refine o_calla Try.func26 rfl rfl rfl (rnew_c _) (by decide) fun g2 _ => ?_))
             | ((refine z_iscallf 28 ?_; refine o_callr rfl Try.func28 rfl rfl rfl (alive_c _ _ _ _ (cells_rds 1 rfl)) (by decide) ?_))
             | ((refine z_iscallf 29 ?_; refine o_callr rfl Try.func29 rfl rfl rfl (status_c _ _ _ _ (cells_rds 1 rfl)) (by decide) ?_))
             | ((refine z_iscallf 30 ?_; refine o_callr rfl Try.func30 rfl rfl rfl (parent_c _ _ _ _ (cells_rds 1 rfl)) (by decide) ?_))
             | ((refine z_iscallf 33 ?_; refine o_calla Try.func33 rfl rfl rfl (living_c _ _ _ (cells_rds 0 rfl)) (by decide) fun x _ => ?_)))
             | (refine z_ispick ?_; first
             | (refine o_pick1 rfl (by first | with_reducible rfl | with_reducible assumption | ((with_reducible refine decide_eq_true ?_); first | with_reducible rfl | with_reducible assumption | omega)) rfl (by decide) ?_)
             | (refine o_pick0 rfl (by first | with_reducible rfl | with_reducible assumption | ((with_reducible refine decide_eq_false ?_); first | with_reducible assumption | omega)) rfl (by decide) ?_)
             | (refine o_pick1 rfl (by first | (simp only [Bool.not_eq_true', decide_eq_false_iff_not]; omega) | (with_reducible assumption) | (rw [decide_eq_false] <;> (first | omega | with_reducible rfl)) | (rw [decide_eq_true] <;> (first | omega | with_reducible rfl)) | (simp; done) | (simp; omega)) rfl (by decide) ?_)
             | (refine o_pick0 rfl (by first | (simp only [Bool.not_eq_false', decide_eq_true_eq]; omega) | (with_reducible assumption) | (rw [decide_eq_false] <;> (first | omega | with_reducible rfl)) | (rw [decide_eq_true] <;> (first | omega | with_reducible rfl)) | (simp; done) | (simp; omega)) rfl (by decide) ?_))
             | (refine z_isix ?_; first
             | refine o_index0 tabOk rfl rfl rfl rfl (by omega) (by omega) (by decide) ?_
             | refine o_index1 tabOk rfl rfl rfl rfl (by omega) (by omega) (by decide) ?_
             | refine o_indexsk1 tabOk rfl rfl rfl rfl (by omega) (by omega) (by decide) ?_
             | refine o_indexsk tabOk rfl rfl rfl rfl (by omega) (by omega) (by decide) ?_
             | refine o_indexs1 tabOk (by first | exact hne (by omega) | assumption) rfl rfl rfl rfl (by omega) (by omega) (by decide) ?_)
             | (refine z_isbi ?_; first
             | refine o_len tabOk rfl rfl (by decide) ?_
             | refine o_min rfl rfl (by decide) ?_
             | refine o_max rfl rfl (by decide) ?_)
             | refine o_move rfl (by decide) ?_
             | refine o_assign rfl (by decide) ?_
             | refine o_nil rfl (by decide) ?_
             | refine o_extract rfl rfl (by decide) ?_
             | refine o_not rfl (by decide) ?_
             | refine o_field0 tabOk rfl rfl rfl rfl rfl (by decide) ?_
             | refine o_field tabOk rfl rfl rfl rfl rfl (by decide) ?_
             | refine o_conv tabOk rfl rfl rfl (by decide) ?_))
      · have hin := in_out (e := e') h8
        have hdn := dn_out (e := e') h8
        have hpa := pa_out (e := e') h8
        have hcc := cntV_out (e := e') h8
        have e1 : (!(inB e' v == decide ((0 : Int) = 1))) = false := by rw [hin]; rfl
        have e2 : (!(dnB e' v == decide ((0 : Int) = 2))) = false := by rw [hdn]; rfl
        repeat' (first
         | (refine s_is ?_; first
         | (refine s_isagain ?_; first
         | (exact c_again (v + 1) ⟨by omega, by omega⟩ (by omega) ⟨rfl, rfl, rfl, rfl, (by rw [hcc]; rfl), rfl, rfl, trivial⟩ (fun w h => h)))
         | (refine s_isw ?_; first
         | refine c_seq ?_
         | refine c_block ?_
         | refine c_region ?_
         | refine c_mixed mixed (by kernel_rfl) ?_
         | refine c_skip ?_
         | refine c_ret ?_
         | refine c_exit ?_
         | (refine s_iscond ?_; first
         | (refine c_true rfl (by first | with_reducible rfl | with_reducible assumption | ((with_reducible refine decide_eq_true ?_); first | with_reducible rfl | with_reducible assumption | omega)) ?_)
         | (refine c_false rfl (by first | with_reducible rfl | with_reducible assumption | ((with_reducible refine decide_eq_false ?_); first | with_reducible assumption | omega)) ?_)
         | (refine c_true rfl (by first | (simp only [Bool.not_eq_true', decide_eq_false_iff_not]; omega) | (with_reducible assumption) | (rw [decide_eq_false] <;> (first | omega | with_reducible rfl)) | (rw [decide_eq_true] <;> (first | omega | with_reducible rfl)) | (simp; done) | (simp; omega)) ?_)
         | (refine c_false rfl (by first | (simp only [Bool.not_eq_false', decide_eq_true_eq]; omega) | (with_reducible assumption) | (rw [decide_eq_false] <;> (first | omega | with_reducible rfl)) | (rw [decide_eq_true] <;> (first | omega | with_reducible rfl)) | (simp; done) | (simp; omega)) ?_)
         | refine c_cond rfl (fun hc => ?_) (fun hc => ?_)
         | refine c_condb rfl (fun hc => ?_) (fun hc => ?_)))
         | refine x_then ?_
         | refine x_then_ret ?_
         | refine x_then_exit ?_
         | refine x_block _ ?_
         | refine x_block_ret _ ?_
         | refine x_block_exit _ ?_
         | refine x_block_past (by decide) ?_
         | refine z_tailm ?_)
         | (refine z_isg1 ?_; first
         | refine z_skipu (by decide) rfl rfl ?_
         | (refine z_want1 rfl rfl (by first | with_reducible rfl | with_reducible assumption | ((with_reducible refine decide_eq_true ?_); first | with_reducible rfl | with_reducible assumption | omega)) ?_)
         | (refine z_skip1 (by decide) rfl rfl (by first | with_reducible rfl | with_reducible assumption | ((with_reducible refine decide_eq_false ?_); first | with_reducible assumption | omega)) ?_)
         | (refine z_want1 rfl rfl (by first | (simp only [Bool.not_eq_true', decide_eq_false_iff_not]; omega) | (with_reducible assumption) | (rw [decide_eq_false] <;> (first | omega | with_reducible rfl)) | (rw [decide_eq_true] <;> (first | omega | with_reducible rfl)) | (simp; done) | (simp; omega)) ?_)
         | (refine z_skip1 (by decide) rfl rfl (by first | (simp only [Bool.not_eq_false', decide_eq_true_eq]; omega) | (with_reducible assumption) | (rw [decide_eq_false] <;> (first | omega | with_reducible rfl)) | (rw [decide_eq_true] <;> (first | omega | with_reducible rfl)) | (simp; done) | (simp; omega)) ?_)
         | refine z_guard1 (by decide) rfl rfl (fun hc => ?_) (fun hc => ?_)
         | refine z_guardb (by decide) rfl rfl (fun hc => ?_) (fun hc => ?_))
         | (refine z_isg0 ?_; first
         | refine z_skipu (by decide) rfl rfl ?_
         | (refine z_want0 rfl rfl (by first | with_reducible rfl | with_reducible assumption | ((with_reducible refine decide_eq_false ?_); first | with_reducible assumption | omega)) ?_)
         | (refine z_skip0 (by decide) rfl rfl (by first | with_reducible rfl | with_reducible assumption | ((with_reducible refine decide_eq_true ?_); first | with_reducible rfl | with_reducible assumption | omega)) ?_)
         | (refine z_want0 rfl rfl (by first | (simp only [Bool.not_eq_false', decide_eq_true_eq]; omega) | (with_reducible assumption) | (rw [decide_eq_false] <;> (first | omega | with_reducible rfl)) | (rw [decide_eq_true] <;> (first | omega | with_reducible rfl)) | (simp; done) | (simp; omega)) ?_)
         | (refine z_skip0 (by decide) rfl rfl (by first | (simp only [Bool.not_eq_true', decide_eq_false_iff_not]; omega) | (with_reducible assumption) | (rw [decide_eq_false] <;> (first | omega | with_reducible rfl)) | (rw [decide_eq_true] <;> (first | omega | with_reducible rfl)) | (simp; done) | (simp; omega)) ?_)
         | refine z_guard0 (by decide) rfl rfl (fun hc => ?_) (fun hc => ?_)
         | refine z_guardb (by decide) rfl rfl (fun hc => ?_) (fun hc => ?_))
         | (refine z_isnil ?_; first
         | refine z_list ?_
         | refine z_mixed ?_
         | refine z_mono0 ?_
         | refine z_mono1 (by decide) fun g => ?_
         | refine z_mono2 (by decide) (by decide) fun g g' => ?_
         | refine z_mixedx ?_
         | refine z_quiet ?_)
         | (refine z_isop ?_; first
         | refine o_indexm tabOk rfl rfl rfl rfl (by omega) (by omega) (by decide) ?_
         | refine o_build0 (t := 102) (v := .agg Pe.zero.cs.toArray) (fun _ => by kernel_rfl) (by decide) ?_
         | refine o_build0 (t := 66) (v := .agg Pe.zero.cs.toArray) (fun _ => by kernel_rfl) (by decide) ?_
         | refine o_alloca (e := 102) (vs := Pe.zero.cs) rfl (by kernel_rfl) (by decide) fun g => ?_
         | refine o_alloca (e := 66) (vs := Pe.zero.cs) rfl (by kernel_rfl) (by decide) fun g => ?_
         | refine o_boxa rfl rfl (by decide) fun g => ?_
         | (refine z_isbin ?_; first
         | (refine z_isb .add ?_; first
         | refine o_add rfl rfl (by omega) (by omega) (by decide) ?_
         | refine o_addw rfl rfl (by decide) ?_)
         | (refine z_isb .eql ?_; first
         | refine o_eq rfl rfl (by decide) ?_
         | refine o_beq tabOk rfl rfl rfl (by decide) ?_
         | refine o_peq tabOk rfl rfl (by decide) ?_)
         | (refine z_isb .neq ?_; first
         | refine o_ne rfl rfl (by decide) ?_
         | refine o_bne tabOk rfl rfl rfl (by decide) ?_
         | refine o_pne tabOk rfl rfl (by decide) ?_)
         | (refine z_isb .lss ?_; first
         | refine o_lt rfl rfl (by decide) ?_)
         | (refine z_isb .leq ?_; first
         | refine o_le rfl rfl (by decide) ?_)
         | (refine z_isb .geq ?_; first
         | refine o_ge rfl rfl (by decide) ?_))
         | (refine z_isload ?_; first
         | refine o_loadp tabOk rfl rfl rfl 0 rfl (pe_len _) (tcs_el _ (by omega)) (by decide) ?_
         | refine o_loadp tabOk rfl rfl rfl 1 rfl (pe_len _) (tcs_el _ (by omega)) (by decide) ?_
         | (refine z_ld1 tabOk rfl rfl ?_; first
         | refine o_loadm tabOk rfl rfl rfl (by repeat' (first | exact List.mem_cons_self | apply List.mem_cons_of_mem)) (by first | exact tcs_s _ (by omega) | exact tcs_p _ (by omega) | exact tcs_u _ (by omega) | exact dd_k _ | exact dd_n _ | exact dd_u _ | exact i64p_at _ (by omega) | rfl) (by decide) ?_
         | refine o_loads tabOk (by first | assumption | exact Rds.cons _ (by assumption) | exact Rds.cons _ (Rds.cons _ (by assumption)) | exact own_rds 0 rfl | exact own_rds 1 rfl | exact own_rds 2 rfl) rfl rfl rfl (by first | exact tcs_s _ (by omega) | exact tcs_p _ (by omega) | exact tcs_u _ (by omega) | exact dd_k _ | exact dd_n _ | exact dd_u _ | exact i64p_at _ (by omega) | rfl) (by decide) ?_)
         | (refine z_ldw tabOk rfl rfl ?_; first
         | refine o_loadwm tabOk rfl rfl rfl (by repeat' (first | exact List.mem_cons_self | apply List.mem_cons_of_mem)) (by first | exact dd_len _ | (simp only [dd_len]) | rfl) (by decide) ?_))
         | (refine z_iscall ?_; first
         | ((refine z_iscallf 54 ?_; refine o_callr rfl Try.func54 rfl rfl rfl (in_c _ _ _ _ (by first | exact cells_rds 0 rfl | exact cells_rds 1 rfl | exact cells_rds 2 rfl)) (by decide) ?_))
         | ((refine z_iscallf 57 ?_; refine o_callr rfl Try.func57 rfl rfl rfl (ralive_c _ _ _ _ (by first | exact cells_rds 0 rfl | exact cells_rds 1 rfl | exact cells_rds 2 rfl)) (by decide) ?_))
         | ((refine z_iscallf 32 ?_; refine o_fn rfl Try.func32 rfl rfl rfl (awake_p) (by decide) ?_))
         | ((refine z_iscallf 25 ?_; refine o_calla Try.func25 rfl rfl rfl (new_c _) (by decide) fun g1 _ => ?_))
         | ((refine z_iscallf 26 ?_; refine o_calla Try.func26 rfl rfl rfl (rnew_c _) (by decide) fun g2 _ => ?_))
         | ((refine z_iscallf 28 ?_; refine o_callr rfl Try.func28 rfl rfl rfl (alive_c _ _ _ _ (cells_rds 1 rfl)) (by decide) ?_))
         | ((refine z_iscallf 29 ?_; refine o_callr rfl Try.func29 rfl rfl rfl (status_c _ _ _ _ (cells_rds 1 rfl)) (by decide) ?_))
         | ((refine z_iscallf 30 ?_; refine o_callr rfl Try.func30 rfl rfl rfl (parent_c _ _ _ _ (cells_rds 1 rfl)) (by decide) ?_))
         | ((refine z_iscallf 33 ?_; refine o_calla Try.func33 rfl rfl rfl (living_c _ _ _ (cells_rds 0 rfl)) (by decide) fun x _ => ?_)))
         | (refine z_ispick ?_; first
         | (refine o_pick1 rfl (by first | with_reducible rfl | with_reducible assumption | ((with_reducible refine decide_eq_true ?_); first | with_reducible rfl | with_reducible assumption | omega)) rfl (by decide) ?_)
         | (refine o_pick0 rfl (by first | with_reducible rfl | with_reducible assumption | ((with_reducible refine decide_eq_false ?_); first | with_reducible assumption | omega)) rfl (by decide) ?_)
         | (refine o_pick1 rfl (by first | (simp only [Bool.not_eq_true', decide_eq_false_iff_not]; omega) | (with_reducible assumption) | (rw [decide_eq_false] <;> (first | omega | with_reducible rfl)) | (rw [decide_eq_true] <;> (first | omega | with_reducible rfl)) | (simp; done) | (simp; omega)) rfl (by decide) ?_)
         | (refine o_pick0 rfl (by first | (simp only [Bool.not_eq_false', decide_eq_true_eq]; omega) | (with_reducible assumption) | (rw [decide_eq_false] <;> (first | omega | with_reducible rfl)) | (rw [decide_eq_true] <;> (first | omega | with_reducible rfl)) | (simp; done) | (simp; omega)) rfl (by decide) ?_))
         | (refine z_isix ?_; first
         | refine o_index0 tabOk rfl rfl rfl rfl (by omega) (by omega) (by decide) ?_
         | refine o_index1 tabOk rfl rfl rfl rfl (by omega) (by omega) (by decide) ?_
         | refine o_indexsk1 tabOk rfl rfl rfl rfl (by omega) (by omega) (by decide) ?_
         | refine o_indexsk tabOk rfl rfl rfl rfl (by omega) (by omega) (by decide) ?_
         | refine o_indexs1 tabOk (by first | exact hne (by omega) | assumption) rfl rfl rfl rfl (by omega) (by omega) (by decide) ?_)
         | (refine z_isbi ?_; first
         | refine o_len tabOk rfl rfl (by decide) ?_
         | refine o_min rfl rfl (by decide) ?_
         | refine o_max rfl rfl (by decide) ?_)
         | refine o_move rfl (by decide) ?_
         | refine o_assign rfl (by decide) ?_
         | refine o_nil rfl (by decide) ?_
         | refine o_extract rfl rfl (by decide) ?_
         | refine o_not rfl (by decide) ?_
         | refine o_field0 tabOk rfl rfl rfl rfl rfl (by decide) ?_
         | refine o_field tabOk rfl rfl rfl rfl rfl (by decide) ?_
         | refine o_conv tabOk rfl rfl rfl (by decide) ?_))
    · obtain rfl : v = 10 := by omega
      have hce := cntV_end e'
      repeat' (first
       | (refine s_is ?_; first
       | (refine s_isagain ?_; first
       | (exact c_again (i + 1, e') ⟨by dsimp only; omega, hok'⟩ (by dsimp only; omega) ⟨rfl, rfl, rfl, rfl, trivial⟩ (fun w h => ((h.sel 4 [1, 2, 3, 0] (by decide)).mask [true, true, true, false]))))
       | (refine s_isw ?_; first
       | refine c_seq ?_
       | refine c_block ?_
       | refine c_region ?_
       | refine c_mixed mixed (by kernel_rfl) ?_
       | refine c_skip ?_
       | refine c_ret ?_
       | refine c_exit ?_
       | (refine s_iscond ?_; first
       | (refine c_true rfl (by first | with_reducible rfl | with_reducible assumption | ((with_reducible refine decide_eq_true ?_); first | with_reducible rfl | with_reducible assumption | omega)) ?_)
       | (refine c_false rfl (by first | with_reducible rfl | with_reducible assumption | ((with_reducible refine decide_eq_false ?_); first | with_reducible assumption | omega)) ?_)
       | (refine c_true rfl (by first | (simp only [Bool.not_eq_true', decide_eq_false_iff_not]; omega) | (with_reducible assumption) | (rw [decide_eq_false] <;> (first | omega | with_reducible rfl)) | (rw [decide_eq_true] <;> (first | omega | with_reducible rfl)) | (simp; done) | (simp; omega)) ?_)
       | (refine c_false rfl (by first | (simp only [Bool.not_eq_false', decide_eq_true_eq]; omega) | (with_reducible assumption) | (rw [decide_eq_false] <;> (first | omega | with_reducible rfl)) | (rw [decide_eq_true] <;> (first | omega | with_reducible rfl)) | (simp; done) | (simp; omega)) ?_)
       | refine c_cond rfl (fun hc => ?_) (fun hc => ?_)
       | refine c_condb rfl (fun hc => ?_) (fun hc => ?_)))
       | refine x_then ?_
       | refine x_then_ret ?_
       | refine x_then_exit ?_
       | refine x_block _ ?_
       | refine x_block_ret _ ?_
       | refine x_block_exit _ ?_
       | refine x_block_past (by decide) ?_
       | refine z_tailm ?_)
       | (refine z_isg1 ?_; first
       | refine z_skipu (by decide) rfl rfl ?_
       | (refine z_want1 rfl rfl (by first | with_reducible rfl | with_reducible assumption | ((with_reducible refine decide_eq_true ?_); first | with_reducible rfl | with_reducible assumption | omega)) ?_)
       | (refine z_skip1 (by decide) rfl rfl (by first | with_reducible rfl | with_reducible assumption | ((with_reducible refine decide_eq_false ?_); first | with_reducible assumption | omega)) ?_)
       | (refine z_want1 rfl rfl (by first | (simp only [Bool.not_eq_true', decide_eq_false_iff_not]; omega) | (with_reducible assumption) | (rw [decide_eq_false] <;> (first | omega | with_reducible rfl)) | (rw [decide_eq_true] <;> (first | omega | with_reducible rfl)) | (simp; done) | (simp; omega)) ?_)
       | (refine z_skip1 (by decide) rfl rfl (by first | (simp only [Bool.not_eq_false', decide_eq_true_eq]; omega) | (with_reducible assumption) | (rw [decide_eq_false] <;> (first | omega | with_reducible rfl)) | (rw [decide_eq_true] <;> (first | omega | with_reducible rfl)) | (simp; done) | (simp; omega)) ?_)
       | refine z_guard1 (by decide) rfl rfl (fun hc => ?_) (fun hc => ?_)
       | refine z_guardb (by decide) rfl rfl (fun hc => ?_) (fun hc => ?_))
       | (refine z_isg0 ?_; first
       | refine z_skipu (by decide) rfl rfl ?_
       | (refine z_want0 rfl rfl (by first | with_reducible rfl | with_reducible assumption | ((with_reducible refine decide_eq_false ?_); first | with_reducible assumption | omega)) ?_)
       | (refine z_skip0 (by decide) rfl rfl (by first | with_reducible rfl | with_reducible assumption | ((with_reducible refine decide_eq_true ?_); first | with_reducible rfl | with_reducible assumption | omega)) ?_)
       | (refine z_want0 rfl rfl (by first | (simp only [Bool.not_eq_false', decide_eq_true_eq]; omega) | (with_reducible assumption) | (rw [decide_eq_false] <;> (first | omega | with_reducible rfl)) | (rw [decide_eq_true] <;> (first | omega | with_reducible rfl)) | (simp; done) | (simp; omega)) ?_)
       | (refine z_skip0 (by decide) rfl rfl (by first | (simp only [Bool.not_eq_true', decide_eq_false_iff_not]; omega) | (with_reducible assumption) | (rw [decide_eq_false] <;> (first | omega | with_reducible rfl)) | (rw [decide_eq_true] <;> (first | omega | with_reducible rfl)) | (simp; done) | (simp; omega)) ?_)
       | refine z_guard0 (by decide) rfl rfl (fun hc => ?_) (fun hc => ?_)
       | refine z_guardb (by decide) rfl rfl (fun hc => ?_) (fun hc => ?_))
       | (refine z_isnil ?_; first
       | refine z_list ?_
       | refine z_mixed ?_
       | refine z_mono0 ?_
       | refine z_mono1 (by decide) fun g => ?_
       | refine z_mono2 (by decide) (by decide) fun g g' => ?_
       | refine z_mixedx ?_
       | refine z_quiet ?_)
       | (refine z_isop ?_; first
       | refine o_indexm tabOk rfl rfl rfl rfl (by omega) (by omega) (by decide) ?_
       | refine o_build0 (t := 102) (v := .agg Pe.zero.cs.toArray) (fun _ => by kernel_rfl) (by decide) ?_
       | refine o_build0 (t := 66) (v := .agg Pe.zero.cs.toArray) (fun _ => by kernel_rfl) (by decide) ?_
       | refine o_alloca (e := 102) (vs := Pe.zero.cs) rfl (by kernel_rfl) (by decide) fun g => ?_
       | refine o_alloca (e := 66) (vs := Pe.zero.cs) rfl (by kernel_rfl) (by decide) fun g => ?_
       | refine o_boxa rfl rfl (by decide) fun g => ?_
       | (refine z_isbin ?_; first
       | (refine z_isb .add ?_; first
       | refine o_add rfl rfl (by omega) (by omega) (by decide) ?_
       | refine o_addw rfl rfl (by decide) ?_)
       | (refine z_isb .eql ?_; first
       | refine o_eq rfl rfl (by decide) ?_
       | refine o_beq tabOk rfl rfl rfl (by decide) ?_
       | refine o_peq tabOk rfl rfl (by decide) ?_)
       | (refine z_isb .neq ?_; first
       | refine o_ne rfl rfl (by decide) ?_
       | refine o_bne tabOk rfl rfl rfl (by decide) ?_
       | refine o_pne tabOk rfl rfl (by decide) ?_)
       | (refine z_isb .lss ?_; first
       | refine o_lt rfl rfl (by decide) ?_)
       | (refine z_isb .leq ?_; first
       | refine o_le rfl rfl (by decide) ?_)
       | (refine z_isb .geq ?_; first
       | refine o_ge rfl rfl (by decide) ?_))
       | (refine z_isload ?_; first
       | refine o_loadp tabOk rfl rfl rfl 0 rfl (pe_len _) (tcs_el _ (by omega)) (by decide) ?_
       | refine o_loadp tabOk rfl rfl rfl 1 rfl (pe_len _) (tcs_el _ (by omega)) (by decide) ?_
       | (refine z_ld1 tabOk rfl rfl ?_; first
       | refine o_loadm tabOk rfl rfl rfl (by repeat' (first | exact List.mem_cons_self | apply List.mem_cons_of_mem)) (by first | exact tcs_s _ (by omega) | exact tcs_p _ (by omega) | exact tcs_u _ (by omega) | exact dd_k _ | exact dd_n _ | exact dd_u _ | exact i64p_at _ (by omega) | rfl) (by decide) ?_
       | refine o_loads tabOk (by first | assumption | exact Rds.cons _ (by assumption) | exact Rds.cons _ (Rds.cons _ (by assumption)) | exact own_rds 0 rfl | exact own_rds 1 rfl | exact own_rds 2 rfl) rfl rfl rfl (by first | exact tcs_s _ (by omega) | exact tcs_p _ (by omega) | exact tcs_u _ (by omega) | exact dd_k _ | exact dd_n _ | exact dd_u _ | exact i64p_at _ (by omega) | rfl) (by decide) ?_)
       | (refine z_ldw tabOk rfl rfl ?_; first
       | refine o_loadwm tabOk rfl rfl rfl (by repeat' (first | exact List.mem_cons_self | apply List.mem_cons_of_mem)) (by first | exact dd_len _ | (simp only [dd_len]) | rfl) (by decide) ?_))
       | (refine z_iscall ?_; first
       | ((refine z_iscallf 54 ?_; refine o_callr rfl Try.func54 rfl rfl rfl (in_c _ _ _ _ (by first | exact cells_rds 0 rfl | exact cells_rds 1 rfl | exact cells_rds 2 rfl)) (by decide) ?_))
       | ((refine z_iscallf 57 ?_; refine o_callr rfl Try.func57 rfl rfl rfl (ralive_c _ _ _ _ (by first | exact cells_rds 0 rfl | exact cells_rds 1 rfl | exact cells_rds 2 rfl)) (by decide) ?_))
       | ((refine z_iscallf 32 ?_; refine o_fn rfl Try.func32 rfl rfl rfl (awake_p) (by decide) ?_))
       | ((refine z_iscallf 25 ?_; refine o_calla Try.func25 rfl rfl rfl (new_c _) (by decide) fun g1 _ => ?_))
       | ((refine z_iscallf 26 ?_; refine o_calla Try.func26 rfl rfl rfl (rnew_c _) (by decide) fun g2 _ => ?_))
       | ((refine z_iscallf 28 ?_; refine o_callr rfl Try.func28 rfl rfl rfl (alive_c _ _ _ _ (cells_rds 1 rfl)) (by decide) ?_))
       | ((refine z_iscallf 29 ?_; refine o_callr rfl Try.func29 rfl rfl rfl (status_c _ _ _ _ (cells_rds 1 rfl)) (by decide) ?_))
       | ((refine z_iscallf 30 ?_; refine o_callr rfl Try.func30 rfl rfl rfl (parent_c _ _ _ _ (cells_rds 1 rfl)) (by decide) ?_))
       | ((refine z_iscallf 33 ?_; refine o_calla Try.func33 rfl rfl rfl (living_c _ _ _ (cells_rds 0 rfl)) (by decide) fun x _ => ?_)))
       | (refine z_ispick ?_; first
       | (refine o_pick1 rfl (by first | with_reducible rfl | with_reducible assumption | ((with_reducible refine decide_eq_true ?_); first | with_reducible rfl | with_reducible assumption | omega)) rfl (by decide) ?_)
       | (refine o_pick0 rfl (by first | with_reducible rfl | with_reducible assumption | ((with_reducible refine decide_eq_false ?_); first | with_reducible assumption | omega)) rfl (by decide) ?_)
       | (refine o_pick1 rfl (by first | (simp only [Bool.not_eq_true', decide_eq_false_iff_not]; omega) | (with_reducible assumption) | (rw [decide_eq_false] <;> (first | omega | with_reducible rfl)) | (rw [decide_eq_true] <;> (first | omega | with_reducible rfl)) | (simp; done) | (simp; omega)) rfl (by decide) ?_)
       | (refine o_pick0 rfl (by first | (simp only [Bool.not_eq_false', decide_eq_true_eq]; omega) | (with_reducible assumption) | (rw [decide_eq_false] <;> (first | omega | with_reducible rfl)) | (rw [decide_eq_true] <;> (first | omega | with_reducible rfl)) | (simp; done) | (simp; omega)) rfl (by decide) ?_))
       | (refine z_isix ?_; first
       | refine o_index0 tabOk rfl rfl rfl rfl (by omega) (by omega) (by decide) ?_
       | refine o_index1 tabOk rfl rfl rfl rfl (by omega) (by omega) (by decide) ?_
       | refine o_indexsk1 tabOk rfl rfl rfl rfl (by omega) (by omega) (by decide) ?_
       | refine o_indexsk tabOk rfl rfl rfl rfl (by omega) (by omega) (by decide) ?_
       | refine o_indexs1 tabOk (by first | exact hne (by omega) | assumption) rfl rfl rfl rfl (by omega) (by omega) (by decide) ?_)
       | (refine z_isbi ?_; first
       | refine o_len tabOk rfl rfl (by decide) ?_
       | refine o_min rfl rfl (by decide) ?_
       | refine o_max rfl rfl (by decide) ?_)
       | refine o_move rfl (by decide) ?_
       | refine o_assign rfl (by decide) ?_
       | refine o_nil rfl (by decide) ?_
       | refine o_extract rfl rfl (by decide) ?_
       | refine o_not rfl (by decide) ?_
       | refine o_field0 tabOk rfl rfl rfl rfl rfl (by decide) ?_
       | refine o_field tabOk rfl rfl rfl rfl rfl (by decide) ?_
       | refine o_conv tabOk rfl rfl rfl (by decide) ?_))
  · skip
    repeat' (first
     | (refine s_is ?_; first
     | (refine s_isret ?_; first
     | exact f_r1 rfl (res_t rfl) () trivial (by first | rfl | simp) (fun w h => ((h.sel 3 [2, 0, 1] (by decide)).mask [true, false, false])))
     | (refine s_isw ?_; first
     | refine c_seq ?_
     | refine c_block ?_
     | refine c_region ?_
     | refine c_mixed mixed (by kernel_rfl) ?_
     | refine c_skip ?_
     | refine c_ret ?_
     | refine c_exit ?_
     | (refine s_iscond ?_; first
     | (refine c_true rfl (by first | with_reducible rfl | with_reducible assumption | ((with_reducible refine decide_eq_true ?_); first | with_reducible rfl | with_reducible assumption | omega)) ?_)
     | (refine c_false rfl (by first | with_reducible rfl | with_reducible assumption | ((with_reducible refine decide_eq_false ?_); first | with_reducible assumption | omega)) ?_)
     | (refine c_true rfl (by first | (simp only [Bool.not_eq_true', decide_eq_false_iff_not]; omega) | (with_reducible assumption) | (rw [decide_eq_false] <;> (first | omega | with_reducible rfl)) | (rw [decide_eq_true] <;> (first | omega | with_reducible rfl)) | (simp; done) | (simp; omega)) ?_)
     | (refine c_false rfl (by first | (simp only [Bool.not_eq_false', decide_eq_true_eq]; omega) | (with_reducible assumption) | (rw [decide_eq_false] <;> (first | omega | with_reducible rfl)) | (rw [decide_eq_true] <;> (first | omega | with_reducible rfl)) | (simp; done) | (simp; omega)) ?_)
     | refine c_cond rfl (fun hc => ?_) (fun hc => ?_)
     | refine c_condb rfl (fun hc => ?_) (fun hc => ?_)))
     | refine x_then ?_
     | refine x_then_ret ?_
     | refine x_then_exit ?_
     | refine x_block _ ?_
     | refine x_block_ret _ ?_
     | refine x_block_exit _ ?_
     | refine x_block_past (by decide) ?_
     | refine z_tailm ?_)
     | (refine z_isg1 ?_; first
     | refine z_skipu (by decide) rfl rfl ?_
     | (refine z_want1 rfl rfl (by first | with_reducible rfl | with_reducible assumption | ((with_reducible refine decide_eq_true ?_); first | with_reducible rfl | with_reducible assumption | omega)) ?_)
     | (refine z_skip1 (by decide) rfl rfl (by first | with_reducible rfl | with_reducible assumption | ((with_reducible refine decide_eq_false ?_); first | with_reducible assumption | omega)) ?_)
     | (refine z_want1 rfl rfl (by first | (simp only [Bool.not_eq_true', decide_eq_false_iff_not]; omega) | (with_reducible assumption) | (rw [decide_eq_false] <;> (first | omega | with_reducible rfl)) | (rw [decide_eq_true] <;> (first | omega | with_reducible rfl)) | (simp; done) | (simp; omega)) ?_)
     | (refine z_skip1 (by decide) rfl rfl (by first | (simp only [Bool.not_eq_false', decide_eq_true_eq]; omega) | (with_reducible assumption) | (rw [decide_eq_false] <;> (first | omega | with_reducible rfl)) | (rw [decide_eq_true] <;> (first | omega | with_reducible rfl)) | (simp; done) | (simp; omega)) ?_)
     | refine z_guard1 (by decide) rfl rfl (fun hc => ?_) (fun hc => ?_)
     | refine z_guardb (by decide) rfl rfl (fun hc => ?_) (fun hc => ?_))
     | (refine z_isg0 ?_; first
     | refine z_skipu (by decide) rfl rfl ?_
     | (refine z_want0 rfl rfl (by first | with_reducible rfl | with_reducible assumption | ((with_reducible refine decide_eq_false ?_); first | with_reducible assumption | omega)) ?_)
     | (refine z_skip0 (by decide) rfl rfl (by first | with_reducible rfl | with_reducible assumption | ((with_reducible refine decide_eq_true ?_); first | with_reducible rfl | with_reducible assumption | omega)) ?_)
     | (refine z_want0 rfl rfl (by first | (simp only [Bool.not_eq_false', decide_eq_true_eq]; omega) | (with_reducible assumption) | (rw [decide_eq_false] <;> (first | omega | with_reducible rfl)) | (rw [decide_eq_true] <;> (first | omega | with_reducible rfl)) | (simp; done) | (simp; omega)) ?_)
     | (refine z_skip0 (by decide) rfl rfl (by first | (simp only [Bool.not_eq_true', decide_eq_false_iff_not]; omega) | (with_reducible assumption) | (rw [decide_eq_false] <;> (first | omega | with_reducible rfl)) | (rw [decide_eq_true] <;> (first | omega | with_reducible rfl)) | (simp; done) | (simp; omega)) ?_)
     | refine z_guard0 (by decide) rfl rfl (fun hc => ?_) (fun hc => ?_)
     | refine z_guardb (by decide) rfl rfl (fun hc => ?_) (fun hc => ?_))
     | (refine z_isnil ?_; first
     | refine z_list ?_
     | refine z_mixed ?_
     | refine z_mono0 ?_
     | refine z_mono1 (by decide) fun g => ?_
     | refine z_mono2 (by decide) (by decide) fun g g' => ?_
     | refine z_mixedx ?_
     | refine z_quiet ?_)
     | (refine z_isop ?_; first
     | refine o_indexm tabOk rfl rfl rfl rfl (by omega) (by omega) (by decide) ?_
     | refine o_build0 (t := 102) (v := .agg Pe.zero.cs.toArray) (fun _ => by kernel_rfl) (by decide) ?_
     | refine o_build0 (t := 66) (v := .agg Pe.zero.cs.toArray) (fun _ => by kernel_rfl) (by decide) ?_
     | refine o_alloca (e := 102) (vs := Pe.zero.cs) rfl (by kernel_rfl) (by decide) fun g => ?_
     | refine o_alloca (e := 66) (vs := Pe.zero.cs) rfl (by kernel_rfl) (by decide) fun g => ?_
     | refine o_boxa rfl rfl (by decide) fun g => ?_
     | (refine z_isbin ?_; first
     | (refine z_isb .add ?_; first
     | refine o_add rfl rfl (by omega) (by omega) (by decide) ?_
     | refine o_addw rfl rfl (by decide) ?_)
     | (refine z_isb .eql ?_; first
     | refine o_eq rfl rfl (by decide) ?_
     | refine o_beq tabOk rfl rfl rfl (by decide) ?_
     | refine o_peq tabOk rfl rfl (by decide) ?_)
     | (refine z_isb .neq ?_; first
     | refine o_ne rfl rfl (by decide) ?_
     | refine o_bne tabOk rfl rfl rfl (by decide) ?_
     | refine o_pne tabOk rfl rfl (by decide) ?_)
     | (refine z_isb .lss ?_; first
     | refine o_lt rfl rfl (by decide) ?_)
     | (refine z_isb .leq ?_; first
     | refine o_le rfl rfl (by decide) ?_)
     | (refine z_isb .geq ?_; first
     | refine o_ge rfl rfl (by decide) ?_))
     | (refine z_isload ?_; first
     | refine o_loadp tabOk rfl rfl rfl 0 rfl (pe_len _) (tcs_el _ (by omega)) (by decide) ?_
     | refine o_loadp tabOk rfl rfl rfl 1 rfl (pe_len _) (tcs_el _ (by omega)) (by decide) ?_
     | (refine z_ld1 tabOk rfl rfl ?_; first
     | refine o_loadm tabOk rfl rfl rfl (by repeat' (first | exact List.mem_cons_self | apply List.mem_cons_of_mem)) (by first | exact tcs_s _ (by omega) | exact tcs_p _ (by omega) | exact tcs_u _ (by omega) | exact dd_k _ | exact dd_n _ | exact dd_u _ | exact i64p_at _ (by omega) | rfl) (by decide) ?_
     | refine o_loads tabOk (by first | assumption | exact Rds.cons _ (by assumption) | exact Rds.cons _ (Rds.cons _ (by assumption)) | exact own_rds 0 rfl | exact own_rds 1 rfl | exact own_rds 2 rfl) rfl rfl rfl (by first | exact tcs_s _ (by omega) | exact tcs_p _ (by omega) | exact tcs_u _ (by omega) | exact dd_k _ | exact dd_n _ | exact dd_u _ | exact i64p_at _ (by omega) | rfl) (by decide) ?_)
     | (refine z_ldw tabOk rfl rfl ?_; first
     | refine o_loadwm tabOk rfl rfl rfl (by repeat' (first | exact List.mem_cons_self | apply List.mem_cons_of_mem)) (by first | exact dd_len _ | (simp only [dd_len]) | rfl) (by decide) ?_))
     | (refine z_iscall ?_; first
     | ((refine z_iscallf 54 ?_; refine o_callr rfl Try.func54 rfl rfl rfl (in_c _ _ _ _ (by first | exact cells_rds 0 rfl | exact cells_rds 1 rfl | exact cells_rds 2 rfl)) (by decide) ?_))
     | ((refine z_iscallf 57 ?_; refine o_callr rfl Try.func57 rfl rfl rfl (ralive_c _ _ _ _ (by first | exact cells_rds 0 rfl | exact cells_rds 1 rfl | exact cells_rds 2 rfl)) (by decide) ?_))
     | ((refine z_iscallf 32 ?_; refine o_fn rfl Try.func32 rfl rfl rfl (awake_p) (by decide) ?_))
     | ((refine z_iscallf 25 ?_; refine o_calla Try.func25 rfl rfl rfl (new_c _) (by decide) fun g1 _ => ?_))
     | ((refine z_iscallf 26 ?_; refine o_calla Try.func26 rfl rfl rfl (rnew_c _) (by decide) fun g2 _ => ?_))
     | ((refine z_iscallf 28 ?_; refine o_callr rfl Try.func28 rfl rfl rfl (alive_c _ _ _ _ (cells_rds 1 rfl)) (by decide) ?_))
     | ((refine z_iscallf 29 ?_; refine o_callr rfl Try.func29 rfl rfl rfl (status_c _ _ _ _ (cells_rds 1 rfl)) (by decide) ?_))
     | ((refine z_iscallf 30 ?_; refine o_callr rfl Try.func30 rfl rfl rfl (parent_c _ _ _ _ (cells_rds 1 rfl)) (by decide) ?_))
     | ((refine z_iscallf 33 ?_; refine o_calla Try.func33 rfl rfl rfl (living_c _ _ _ (cells_rds 0 rfl)) (by decide) fun x _ => ?_)))
     | (refine z_ispick ?_; first
     | (refine o_pick1 rfl (by first | with_reducible rfl | with_reducible assumption | ((with_reducible refine decide_eq_true ?_); first | with_reducible rfl | with_reducible assumption | omega)) rfl (by decide) ?_)
     | (refine o_pick0 rfl (by first | with_reducible rfl | with_reducible assumption | ((with_reducible refine decide_eq_false ?_); first | with_reducible assumption | omega)) rfl (by decide) ?_)
     | (refine o_pick1 rfl (by first | (simp only [Bool.not_eq_true', decide_eq_false_iff_not]; omega) | (with_reducible assumption) | (rw [decide_eq_false] <;> (first | omega | with_reducible rfl)) | (rw [decide_eq_true] <;> (first | omega | with_reducible rfl)) | (simp; done) | (simp; omega)) rfl (by decide) ?_)
     | (refine o_pick0 rfl (by first | (simp only [Bool.not_eq_false', decide_eq_true_eq]; omega) | (with_reducible assumption) | (rw [decide_eq_false] <;> (first | omega | with_reducible rfl)) | (rw [decide_eq_true] <;> (first | omega | with_reducible rfl)) | (simp; done) | (simp; omega)) rfl (by decide) ?_))
     | (refine z_isix ?_; first
     | refine o_index0 tabOk rfl rfl rfl rfl (by omega) (by omega) (by decide) ?_
     | refine o_index1 tabOk rfl rfl rfl rfl (by omega) (by omega) (by decide) ?_
     | refine o_indexsk1 tabOk rfl rfl rfl rfl (by omega) (by omega) (by decide) ?_
     | refine o_indexsk tabOk rfl rfl rfl rfl (by omega) (by omega) (by decide) ?_
     | refine o_indexs1 tabOk (by first | exact hne (by omega) | assumption) rfl rfl rfl rfl (by omega) (by omega) (by decide) ?_)
     | (refine z_isbi ?_; first
     | refine o_len tabOk rfl rfl (by decide) ?_
     | refine o_min rfl rfl (by decide) ?_
     | refine o_max rfl rfl (by decide) ?_)
     | refine o_move rfl (by decide) ?_
     | refine o_assign rfl (by decide) ?_
     | refine o_nil rfl (by decide) ?_
     | refine o_extract rfl rfl (by decide) ?_
     | refine o_not rfl (by decide) ?_
     | refine o_field0 tabOk rfl rfl rfl rfl rfl (by decide) ?_
     | refine o_field tabOk rfl rfl rfl rfl rfl (by decide) ?_
     | refine o_conv tabOk rfl rfl rfl (by decide) ?_))
end Go.Proofs.Ytmfnjmmdchlkiaa
