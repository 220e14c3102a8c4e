/-
The law of what comes back: behind a handler a program is as it was.
-/
import Derived.Test.YtjejnlfbonpfaaaDoorSig10
namespace Go.Proofs.YtjejnlfbonpfaaaDoor
set_option linter.unusedVariables false
set_option linter.unusedSimpArgs false
open Eng
theorem next_plain (s : Sg) (c : Cx) (h : (s.next c).2.1 ≠ 2) : (s.next c).2.2.2 = c := by
  simp only [Sg.next] at h ⊢
  split
  · rfl
  · rename_i h1
    rw [if_neg h1] at h
    split
    · rename_i h2
      rw [if_pos h2] at h
      split
      · rename_i h3
        rw [if_pos h3] at h
        exact absurd rfl h
      · split <;> rfl
    · rfl
theorem next_handle {s : Sg} {r : Rf} (hre : Re s r) (c : Cx) (h : (s.next c).2.1 = 2) : (s.next c).1.b = true ∧ (s.next c).1.c = c ∧ (s.next c).1.waits 1 = false := by
  simp only [Sg.next] at h ⊢
  split
  · rename_i h1
    rw [if_pos h1] at h
    exact absurd h (by simp)
  · rename_i h1
    rw [if_neg h1] at h
    split
    · rename_i h2
      rw [if_pos h2] at h
      split
      · rename_i h3
        refine ⟨rfl, rfl, ?_⟩
        have hw : s.waits 1 = false := by simpa using h1
        have h4 := waits_bit (s := s) (m := 1) (by decide)
        have h5 := waits_bit (s := ({ s.low with b := true, c := c } : Sg)) (m := 1) (by decide)
        have h6 := ((low_ok hre.w h2.2).2.2.2.2.2 1 (by decide)).2
        have h7 : bit s.w 1 = false := h4.symm.trans hw
        refine h5.trans ((show _ = bit (lowb s.w) ((1 : Nat) : Int) from rfl).trans (h6.trans ?_))
        show (!(decide (((1 : Nat) : Int) = tz s.w)) && bit s.w 1) = false
        rw [h7, Bool.and_false]
      · rename_i h3
        rw [if_neg h3] at h
        split at h <;> exact absurd h (by simp)
    · rename_i h2
      rw [if_neg h2] at h
      exact absurd h (by simp)
theorem raise_waits {s : Sg} {r : Rf} (hre : Re s r) {t j : Int} (ht : 1 ≤ t ∧ t ≤ 8) (hj : 1 ≤ j ∧ j ≤ 8) : (s.raise t).waits j = (j == t || s.waits j) := by
  obtain ⟨m, hm, rfl⟩ := sig_of hj
  have h2 : (s.raise t).w = setb s.w t := by simp [Sg.raise, setb, ht]
  rw [waits_bit hm, waits_bit hm, h2]
  exact (set_ok hre.w ht).2 m hm
theorem raise_busy (s : Sg) (t : Int) : (s.raise t).b = s.b ∧ (s.raise t).c = s.c := by
  unfold Sg.raise
  split <;> exact ⟨rfl, rfl⟩
theorem next_busy (s : Sg) (d : Cx) (h1 : s.waits 1 = false) (hb : s.b = true) : s.next d = (s, 0, 0, d) := by
  simp [Sg.next, h1, hb]
theorem raise_meanwhile {s : Sg} {r : Rf} (hre : Re s r) (d : Cx) (t : Int) (h1 : s.waits 1 = false) (hb : s.b = true) (ht : ¬ t = 1) : (s.raise t).next d = (s.raise t, 0, 0, d) := by
  refine next_busy _ d ?_ ((raise_busy s t).1.trans hb)
  by_cases hr : 1 ≤ t ∧ t ≤ 8
  · rw [raise_waits hre hr (by decide), h1, Bool.or_false]
    simp; omega
  · rw [show s.raise t = s by simp [Sg.raise, hr]]
    exact h1
theorem next_v (s : Sg) (c : Cx) (s1 : Sg) (k n : Int) (c1 : Cx) (h : s.next c = (s1, k, n, c1)) (fr : List Chunk) (hT : Rds fr (some ⟨0, 0, none⟩) deB) (hz : s.w ≠ 0 → 1 ≤ tz s.w ∧ tz s.w ≤ 8 ∧ (tz s.w = 8 → s.low.w = 0)) :
    Does Tryd.prog 7 [.agg s.cs.toArray, .agg c.cs.toArray] fr (fun _ : Unit => True) (fun _ => .tuple #[.agg s1.cs.toArray, .agg (dCs k n c1).toArray]) (fun _ => fr) := by
  have := next_c s c fr hT hz
  rw [h] at this
  exact this
theorem tri {α β γ δ : Type} (x : α × β × γ × δ) : x = (x.1, x.2.1, x.2.2.1, x.2.2.2) := rfl
attribute [local irreducible] Eng.Hold Eng.Z Eng.S Eng.cells Eng.old Eng.own Sg.cs Cx.cs hsCs deB deT tzi dCs tz Sg.waits Rf.cs boCs De.cs Sg.raise Rf.raise Sg.next Sg.ret Sg.armed cxK Eng.eqB
set_option maxHeartbeats 8000000 in
theorem sigBack (W : World) (A0 : Option Addr) (c0 : Nat) (D : List De) (c d : Cx) (si t : Int) (hrd : Rds [old W] A0 (D.flatMap De.cs)) (hT : Rds [old W] (some ⟨0, 0, none⟩) deB) (hx : D.length ≤ 9223372036854775807) (hok : ∀ d ∈ D, 0 ≤ d.a) :
    Does Tryd.prog 3 [.slice A0 D.length c0, .agg c.cs.toArray, .agg d.cs.toArray, .int .i64 si, .int .i64 t] [old W] (fun _ : Unit => True) (fun _ => .bool true) (fun _ => [old W]) := by
  intro w hw
  have hne : 0 < D.length → A0 ≠ none := fun h => hrd.ne hw (by rw [flat_len De.cs 20 de_len]; omega)
  refine f_enter Tryd.func3 rfl Tryd.ntmps3 rfl hw ?_
  repeat' (first
   | (refine s_is ?_; first
   | (refine s_isw ?_; first
   | (refine s_isloop ?_; first
   | ((rename_i g6 g7 g11; refine c_loop (X := Nat × Sg × Rf) (fun y => y.1 ≤ D.length ∧ Re y.2.1 y.2.2) (fun y => [(0, .slice A0 D.length c0), (4, .int .i64 t), (6, .pointer (some ⟨g6, 0, none⟩)), (7, .pointer (some ⟨g7, 0, none⟩)), (11, .pointer (some ⟨g11, 0, none⟩)), (12, .pointer (some ⟨g, 0, none⟩)), (13, .int .i64 y.1)]) (fun y => [cells g 34 y.2.2.cs, cells g11 30 y.2.1.cs, cells g7 26 d.cs, cells g6 26 c.cs, old W]) (fun y => D.length - y.1) (0, Sg.zero, Rf.zero) ⟨Nat.zero_le _, re_zero⟩ ⟨rfl, rfl, rfl, rfl, rfl, rfl, rfl, trivial⟩ (fun w h => h) (fun y hy => ?_); obtain ⟨i, s, r⟩ := y; obtain ⟨hi, hre⟩ := hy; dsimp only at hi hre ⊢; refine hold ?_)))
   | refine c_seq ?_
   | refine c_block ?_
   | refine c_region ?_
   | refine c_mixed mixed (by kernel_rfl) ?_
   | refine c_skip ?_
   | refine c_ret ?_
   | refine c_exit ?_
   | (refine s_iscond ?_; first
   | (refine c_true rfl (by first | with_reducible rfl | with_reducible assumption | ((with_reducible refine decide_eq_true ?_); first | with_reducible rfl | with_reducible assumption | omega)) ?_)
   | (refine c_false rfl (by first | with_reducible rfl | with_reducible assumption | ((with_reducible refine decide_eq_false ?_); first | with_reducible assumption | omega)) ?_)
   | (refine c_true rfl (by first | (simp only [Bool.not_eq_true', decide_eq_false_iff_not]; omega) | (with_reducible assumption) | (rw [decide_eq_false] <;> (first | omega | with_reducible rfl)) | (rw [decide_eq_true] <;> (first | omega | with_reducible rfl)) | (simp; done) | (simp; omega)) ?_)
   | (refine c_false rfl (by first | (simp only [Bool.not_eq_false', decide_eq_true_eq]; omega) | (with_reducible assumption) | (rw [decide_eq_false] <;> (first | omega | with_reducible rfl)) | (rw [decide_eq_true] <;> (first | omega | with_reducible rfl)) | (simp; done) | (simp; omega)) ?_)
   | refine c_cond rfl (fun hc => ?_) (fun hc => ?_)
   | refine c_condb rfl (fun hc => ?_) (fun hc => ?_)))
   | refine x_then ?_
   | refine x_then_ret ?_
   | refine x_then_exit ?_
   | refine x_block _ ?_
   | refine x_block_ret _ ?_
   | refine x_block_exit _ ?_
   | refine x_block_past (by decide) ?_
   | refine z_tailm ?_)
   | (refine z_isg1 ?_; first
   | refine z_skipu (by decide) rfl rfl ?_
   | (refine z_want1 rfl rfl (by first | with_reducible rfl | with_reducible assumption | ((with_reducible refine decide_eq_true ?_); first | with_reducible rfl | with_reducible assumption | omega)) ?_)
   | (refine z_skip1 (by decide) rfl rfl (by first | with_reducible rfl | with_reducible assumption | ((with_reducible refine decide_eq_false ?_); first | with_reducible assumption | omega)) ?_)
   | (refine z_want1 rfl rfl (by first | (simp only [Bool.not_eq_true', decide_eq_false_iff_not]; omega) | (with_reducible assumption) | (rw [decide_eq_false] <;> (first | omega | with_reducible rfl)) | (rw [decide_eq_true] <;> (first | omega | with_reducible rfl)) | (simp; done) | (simp; omega)) ?_)
   | (refine z_skip1 (by decide) rfl rfl (by first | (simp only [Bool.not_eq_false', decide_eq_true_eq]; omega) | (with_reducible assumption) | (rw [decide_eq_false] <;> (first | omega | with_reducible rfl)) | (rw [decide_eq_true] <;> (first | omega | with_reducible rfl)) | (simp; done) | (simp; omega)) ?_)
   | refine z_guard1 (by decide) rfl rfl (fun hc => ?_) (fun hc => ?_)
   | refine z_guardb (by decide) rfl rfl (fun hc => ?_) (fun hc => ?_))
   | (refine z_isg0 ?_; first
   | refine z_skipu (by decide) rfl rfl ?_
   | (refine z_want0 rfl rfl (by first | with_reducible rfl | with_reducible assumption | ((with_reducible refine decide_eq_false ?_); first | with_reducible assumption | omega)) ?_)
   | (refine z_skip0 (by decide) rfl rfl (by first | with_reducible rfl | with_reducible assumption | ((with_reducible refine decide_eq_true ?_); first | with_reducible rfl | with_reducible assumption | omega)) ?_)
   | (refine z_want0 rfl rfl (by first | (simp only [Bool.not_eq_false', decide_eq_true_eq]; omega) | (with_reducible assumption) | (rw [decide_eq_false] <;> (first | omega | with_reducible rfl)) | (rw [decide_eq_true] <;> (first | omega | with_reducible rfl)) | (simp; done) | (simp; omega)) ?_)
   | (refine z_skip0 (by decide) rfl rfl (by first | (simp only [Bool.not_eq_true', decide_eq_false_iff_not]; omega) | (with_reducible assumption) | (rw [decide_eq_false] <;> (first | omega | with_reducible rfl)) | (rw [decide_eq_true] <;> (first | omega | with_reducible rfl)) | (simp; done) | (simp; omega)) ?_)
   | refine z_guard0 (by decide) rfl rfl (fun hc => ?_) (fun hc => ?_)
   | refine z_guardb (by decide) rfl rfl (fun hc => ?_) (fun hc => ?_))
   | (refine z_isnil ?_; first
   | refine z_keep1 ?_
   | refine z_keep2 ?_
   | refine z_list ?_
   | refine z_mixed ?_
   | refine z_mono0 ?_
   | refine z_mono1 (by decide) fun g => ?_
   | refine z_mono2 (by decide) (by decide) fun g g' => ?_
   | refine z_mixedx ?_
   | refine z_quiet ?_)
   | (refine z_isop ?_; first
   | refine o_build (t := 34) (v := .agg Rf.zero.cs.toArray) rfl (fun _ => by kernel_rfl) (by decide) ?_
   | refine o_boxa rfl rfl (by decide) fun g => ?_
   | refine o_alloca (e := 30) (vs := Sg.zero.cs) rfl (by kernel_rfl) (by decide) fun g => ?_
   | refine o_alloca (e := 26) (vs := Cx.zero.cs) rfl (by kernel_rfl) (by decide) fun g => ?_
   | refine o_alloca (e := 40) (vs := dCs 0 0 Cx.zero) rfl (by kernel_rfl) (by decide) fun g => ?_
   | refine o_buildf (t := 40) (zs := dCs 0 0 Cx.zero) tabOk rfl rfl (by kernel_rfl) rfl (d_fill _ _ _) (by decide) ?_
   | refine o_build (t := 26) (v := .agg Cx.zero.cs.toArray) rfl (fun _ => by kernel_rfl) (by decide) ?_
   | (refine z_isbin ?_; first
   | refine o_eqa cmp40 rfl rfl (d_typed _ _ _) (d_typed _ _ _) (by decide) ?_
   | refine o_eqa cmp26 rfl rfl (cx_typed _) (cx_typed _) (by decide) ?_
   | refine o_nea cmp26 rfl rfl (cx_typed _) (cx_typed _) (by decide) ?_
   | (refine z_isb .add ?_; first
   | refine o_add rfl rfl (by omega) (by omega) (by decide) ?_
   | refine o_addw rfl rfl (by decide) ?_)
   | (refine z_isb .eql ?_; first
   | refine o_eq rfl rfl (by decide) ?_
   | refine o_beq tabOk rfl rfl rfl (by decide) ?_
   | refine o_peq tabOk rfl rfl (by decide) ?_)
   | (refine z_isb .neq ?_; first
   | refine o_ne rfl rfl (by decide) ?_
   | refine o_bne tabOk rfl rfl rfl (by decide) ?_
   | refine o_pne tabOk rfl rfl (by decide) ?_)
   | (refine z_isb .lss ?_; first
   | refine o_lt rfl rfl (by decide) ?_))
   | (refine z_isload ?_; first
   | refine o_loadp tabOk rfl rfl rfl 1 rfl (cx_len _) (de_c _) (by decide) ?_
   | refine o_loadp tabOk rfl rfl rfl 3 rfl (cx_len _) (de_c _) (by decide) ?_
   | refine o_loadp tabOk rfl rfl rfl 0 rfl (cx_len _) (d_c _ _ _) (by decide) ?_
   | refine o_loadp tabOk rfl rfl rfl 1 rfl (cx_len _) (d_c _ _ _) (by decide) ?_
   | refine o_loadp tabOk rfl rfl rfl 2 rfl (cx_len _) (d_c _ _ _) (by decide) ?_
   | (refine z_ld1 tabOk rfl rfl ?_; first
   | refine o_loadm tabOk rfl rfl rfl (by repeat' (first | exact List.mem_cons_self | apply List.mem_cons_of_mem)) (by first | exact d_pc _ _ _ | exact de_k _ | exact de_s _ | exact de_a _ | exact d_k _ _ _ | exact d_n _ _ _ | rfl) (by decide) ?_
   | refine o_loads tabOk (by first | assumption | exact Rds.cons _ (by assumption) | exact Rds.cons _ (Rds.cons _ (by assumption)) | exact own_rds 0 rfl | exact own_rds 1 rfl | exact own_rds 2 rfl) rfl rfl rfl (by first | exact d_pc _ _ _ | exact de_k _ | exact de_s _ | exact de_a _ | exact d_k _ _ _ | exact d_n _ _ _ | rfl) (by decide) ?_)
   | (refine z_ldw tabOk rfl rfl ?_; first
   | refine o_loadwm tabOk rfl rfl rfl (by repeat' (first | exact List.mem_cons_self | apply List.mem_cons_of_mem)) (by first | exact sg_len _ | exact cx_len _ | exact d_len _ _ _ | exact de_len _ | exact rf_len _ | (simp only [sg_len, cx_len, d_len, de_len, rf_len]) | rfl) (by decide) ?_))
   | (refine z_isstore ?_; first
   | refine o_storebk 0 tabOk rfl rfl rfl rfl (by first | exact sg_len _ | exact cx_len _ | exact d_len _ _ _ | exact de_len _ | exact rf_len _ | (simp only [sg_len, cx_len, d_len, de_len, rf_len]) | rfl) (by first | exact sg_one _ | exact cx_one _ | exact d_one _ _ _ | exact de_one _ | exact rf_one _ | rfl) (by first | exact sg_len _ | exact cx_len _ | exact d_len _ _ _ | exact de_len _ | exact rf_len _ | (simp only [sg_len, cx_len, d_len, de_len, rf_len]) | rfl) ?_
   | refine o_storebk 1 tabOk rfl rfl rfl rfl (by first | exact sg_len _ | exact cx_len _ | exact d_len _ _ _ | exact de_len _ | exact rf_len _ | (simp only [sg_len, cx_len, d_len, de_len, rf_len]) | rfl) (by first | exact sg_one _ | exact cx_one _ | exact d_one _ _ _ | exact de_one _ | exact rf_one _ | rfl) (by first | exact sg_len _ | exact cx_len _ | exact d_len _ _ _ | exact de_len _ | exact rf_len _ | (simp only [sg_len, cx_len, d_len, de_len, rf_len]) | rfl) ?_
   | (refine z_stw rfl ?_; first
   | ((refine z_sti 0 rfl rfl ?_; refine o_storeb0 rfl tabOk rfl rfl rfl (by first | exact sg_len _ | exact cx_len _ | exact d_len _ _ _ | exact de_len _ | exact rf_len _ | (simp only [sg_len, cx_len, d_len, de_len, rf_len]) | rfl) (by first | exact sg_one _ | exact cx_one _ | exact d_one _ _ _ | exact de_one _ | exact rf_one _ | rfl) (by first | exact sg_len _ | exact cx_len _ | exact d_len _ _ _ | exact de_len _ | exact rf_len _ | (simp only [sg_len, cx_len, d_len, de_len, rf_len]) | rfl) ?_))
   | ((refine z_sti 1 rfl rfl ?_; refine o_storeb1 rfl tabOk rfl rfl rfl (by first | exact sg_len _ | exact cx_len _ | exact d_len _ _ _ | exact de_len _ | exact rf_len _ | (simp only [sg_len, cx_len, d_len, de_len, rf_len]) | rfl) (by first | exact sg_one _ | exact cx_one _ | exact d_one _ _ _ | exact de_one _ | exact rf_one _ | rfl) (by first | exact sg_len _ | exact cx_len _ | exact d_len _ _ _ | exact de_len _ | exact rf_len _ | (simp only [sg_len, cx_len, d_len, de_len, rf_len]) | rfl) ?_))
   | ((refine z_sti 2 rfl rfl ?_; refine o_storeb2 rfl tabOk rfl rfl rfl (by first | exact sg_len _ | exact cx_len _ | exact d_len _ _ _ | exact de_len _ | exact rf_len _ | (simp only [sg_len, cx_len, d_len, de_len, rf_len]) | rfl) (by first | exact sg_one _ | exact cx_one _ | exact d_one _ _ _ | exact de_one _ | exact rf_one _ | rfl) (by first | exact sg_len _ | exact cx_len _ | exact d_len _ _ _ | exact de_len _ | exact rf_len _ | (simp only [sg_len, cx_len, d_len, de_len, rf_len]) | rfl) ?_))
   | ((refine z_sti 3 rfl rfl ?_; refine o_storeb3 rfl tabOk rfl rfl rfl (by first | exact sg_len _ | exact cx_len _ | exact d_len _ _ _ | exact de_len _ | exact rf_len _ | (simp only [sg_len, cx_len, d_len, de_len, rf_len]) | rfl) (by first | exact sg_one _ | exact cx_one _ | exact d_one _ _ _ | exact de_one _ | exact rf_one _ | rfl) (by first | exact sg_len _ | exact cx_len _ | exact d_len _ _ _ | exact de_len _ | exact rf_len _ | (simp only [sg_len, cx_len, d_len, de_len, rf_len]) | rfl) ?_))
   | ((refine z_sti 4 rfl rfl ?_; refine o_storeb4 rfl tabOk rfl rfl rfl (by first | exact sg_len _ | exact cx_len _ | exact d_len _ _ _ | exact de_len _ | exact rf_len _ | (simp only [sg_len, cx_len, d_len, de_len, rf_len]) | rfl) (by first | exact sg_one _ | exact cx_one _ | exact d_one _ _ _ | exact de_one _ | exact rf_one _ | rfl) (by first | exact sg_len _ | exact cx_len _ | exact d_len _ _ _ | exact de_len _ | exact rf_len _ | (simp only [sg_len, cx_len, d_len, de_len, rf_len]) | rfl) ?_))
   | ((refine z_sti 5 rfl rfl ?_; refine o_storeb5 rfl tabOk rfl rfl rfl (by first | exact sg_len _ | exact cx_len _ | exact d_len _ _ _ | exact de_len _ | exact rf_len _ | (simp only [sg_len, cx_len, d_len, de_len, rf_len]) | rfl) (by first | exact sg_one _ | exact cx_one _ | exact d_one _ _ _ | exact de_one _ | exact rf_one _ | rfl) (by first | exact sg_len _ | exact cx_len _ | exact d_len _ _ _ | exact de_len _ | exact rf_len _ | (simp only [sg_len, cx_len, d_len, de_len, rf_len]) | rfl) ?_))
   | ((refine z_sti 6 rfl rfl ?_; refine o_storeb6 rfl tabOk rfl rfl rfl (by first | exact sg_len _ | exact cx_len _ | exact d_len _ _ _ | exact de_len _ | exact rf_len _ | (simp only [sg_len, cx_len, d_len, de_len, rf_len]) | rfl) (by first | exact sg_one _ | exact cx_one _ | exact d_one _ _ _ | exact de_one _ | exact rf_one _ | rfl) (by first | exact sg_len _ | exact cx_len _ | exact d_len _ _ _ | exact de_len _ | exact rf_len _ | (simp only [sg_len, cx_len, d_len, de_len, rf_len]) | rfl) ?_)))
   | (refine z_st1 rfl rfl ?_; first
   | refine o_store rfl tabOk rfl rfl rfl rfl rfl (by first | exact d_pc _ _ _ | exact de_k _ | exact de_s _ | exact de_a _ | exact d_k _ _ _ | exact d_n _ _ _ | rfl) (by first | rfl) ?_
   | ((refine z_sti 1 rfl rfl ?_; refine o_store1 rfl tabOk rfl rfl rfl rfl rfl (by first | exact d_pc _ _ _ | exact de_k _ | exact de_s _ | exact de_a _ | exact d_k _ _ _ | exact d_n _ _ _ | rfl) (by first | rfl) ?_))
   | ((refine z_sti 2 rfl rfl ?_; refine o_store2 rfl tabOk rfl rfl rfl rfl rfl (by first | exact d_pc _ _ _ | exact de_k _ | exact de_s _ | exact de_a _ | exact d_k _ _ _ | exact d_n _ _ _ | rfl) (by first | rfl) ?_))
   | ((refine z_sti 3 rfl rfl ?_; refine o_store3 rfl tabOk rfl rfl rfl rfl rfl (by first | exact d_pc _ _ _ | exact de_k _ | exact de_s _ | exact de_a _ | exact d_k _ _ _ | exact d_n _ _ _ | rfl) (by first | rfl) ?_))
   | ((refine z_sti 4 rfl rfl ?_; refine o_store4 rfl tabOk rfl rfl rfl rfl rfl (by first | exact d_pc _ _ _ | exact de_k _ | exact de_s _ | exact de_a _ | exact d_k _ _ _ | exact d_n _ _ _ | rfl) (by first | rfl) ?_))
   | ((refine z_sti 5 rfl rfl ?_; refine o_store5 rfl tabOk rfl rfl rfl rfl rfl (by first | exact d_pc _ _ _ | exact de_k _ | exact de_s _ | exact de_a _ | exact d_k _ _ _ | exact d_n _ _ _ | rfl) (by first | rfl) ?_))
   | ((refine z_sti 6 rfl rfl ?_; refine o_store6 rfl tabOk rfl rfl rfl rfl rfl (by first | exact d_pc _ _ _ | exact de_k _ | exact de_s _ | exact de_a _ | exact d_k _ _ _ | exact d_n _ _ _ | rfl) (by first | rfl) ?_))))
   | (refine z_iscall ?_; first
   | ((refine z_iscallf 9 ?_; refine o_fn rfl Tryd.func9 rfl rfl rfl (raise_fn _ _) (by decide) ?_))
   | ((refine z_iscallf 11 ?_; refine o_fn rfl Tryd.func11 rfl rfl rfl (ret_fn _) (by decide) ?_))
   | ((refine z_iscallf 10 ?_; refine o_fn rfl Tryd.func10 rfl rfl rfl (waits_fn _ _) (by decide) ?_)))
   | (refine z_ispick ?_; first
   | (refine o_pick1 rfl (by first | with_reducible rfl | with_reducible assumption | ((with_reducible refine decide_eq_true ?_); first | with_reducible rfl | with_reducible assumption | omega)) rfl (by decide) ?_)
   | (refine o_pick0 rfl (by first | with_reducible rfl | with_reducible assumption | ((with_reducible refine decide_eq_false ?_); first | with_reducible assumption | omega)) rfl (by decide) ?_)
   | (refine o_pick1 rfl (by first | (simp only [Bool.not_eq_true', decide_eq_false_iff_not]; omega) | (with_reducible assumption) | (rw [decide_eq_false] <;> (first | omega | with_reducible rfl)) | (rw [decide_eq_true] <;> (first | omega | with_reducible rfl)) | (simp; done) | (simp; omega)) rfl (by decide) ?_)
   | (refine o_pick0 rfl (by first | (simp only [Bool.not_eq_false', decide_eq_true_eq]; omega) | (with_reducible assumption) | (rw [decide_eq_false] <;> (first | omega | with_reducible rfl)) | (rw [decide_eq_true] <;> (first | omega | with_reducible rfl)) | (simp; done) | (simp; omega)) rfl (by decide) ?_))
   | (refine z_isix ?_; first
   | refine o_index0 tabOk rfl rfl rfl rfl (by omega) (by omega) (by decide) ?_
   | refine o_index1 tabOk rfl rfl rfl rfl (by omega) (by omega) (by decide) ?_
   | refine o_indexsk tabOk rfl rfl rfl rfl (by omega) (by omega) (by decide) ?_
   | refine o_indexs1 tabOk (by first | assumption) rfl rfl rfl rfl (by omega) (by omega) (by decide) ?_)
   | (refine z_isbi ?_; first
   | refine o_len tabOk rfl rfl (by decide) ?_
   | refine o_min rfl rfl (by decide) ?_
   | refine o_max rfl rfl (by decide) ?_)
   | refine o_move rfl (by decide) ?_
   | refine o_assign rfl (by decide) ?_
   | refine o_nil rfl (by decide) ?_
   | refine o_extract rfl rfl (by decide) ?_
   | refine o_not rfl (by decide) ?_
   | refine o_field0 tabOk rfl rfl rfl rfl rfl (by decide) ?_
   | refine o_field tabOk rfl rfl rfl rfl rfl (by decide) ?_
   | refine o_conv tabOk rfl rfl rfl (by decide) ?_))
  refine Hold.go ?_
  by_cases hlt : i < D.length ∧ i < 20
  · obtain ⟨e, he⟩ : ∃ e, D[i]? = some e := ⟨D[i], List.getElem?_eq_getElem hlt.1⟩
    have hda := hok e (List.mem_of_getElem? he)
    obtain ⟨⟨s', r'⟩, hz, hdo⟩ := does_all hre g e [cells g7 26 d.cs, cells g6 26 c.cs, old W] hda (Rds.cons _ (Rds.cons _ hT))
    dsimp only at hz hdo
    repeat' (first
     | (refine s_is ?_; first
     | refine c_keep2o [33] (id := 6) mixed (by kernel_rfl) ?_
     | (refine s_isagain ?_; first
     | (exact c_again (i + 1, s', r') ⟨by dsimp only; omega, hz⟩ (by dsimp only; omega) ⟨rfl, rfl, rfl, rfl, rfl, rfl, rfl, trivial⟩ (fun w h => h)))
     | (refine s_isw ?_; first
     | refine c_seq ?_
     | refine c_block ?_
     | refine c_region ?_
     | refine c_mixed mixed (by kernel_rfl) ?_
     | refine c_skip ?_
     | refine c_ret ?_
     | refine c_exit ?_
     | (refine s_iscond ?_; first
     | (refine c_true rfl (by first | with_reducible rfl | with_reducible assumption | ((with_reducible refine decide_eq_true ?_); first | with_reducible rfl | with_reducible assumption | omega)) ?_)
     | (refine c_false rfl (by first | with_reducible rfl | with_reducible assumption | ((with_reducible refine decide_eq_false ?_); first | with_reducible assumption | omega)) ?_)
     | (refine c_true rfl (by first | (simp only [Bool.not_eq_true', decide_eq_false_iff_not]; omega) | (with_reducible assumption) | (rw [decide_eq_false] <;> (first | omega | with_reducible rfl)) | (rw [decide_eq_true] <;> (first | omega | with_reducible rfl)) | (simp; done) | (simp; omega)) ?_)
     | (refine c_false rfl (by first | (simp only [Bool.not_eq_false', decide_eq_true_eq]; omega) | (with_reducible assumption) | (rw [decide_eq_false] <;> (first | omega | with_reducible rfl)) | (rw [decide_eq_true] <;> (first | omega | with_reducible rfl)) | (simp; done) | (simp; omega)) ?_)
     | refine c_cond rfl (fun hc => ?_) (fun hc => ?_)
     | refine c_condb rfl (fun hc => ?_) (fun hc => ?_)))
     | refine x_then ?_
     | refine x_then_ret ?_
     | refine x_then_exit ?_
     | refine x_block _ ?_
     | refine x_block_ret _ ?_
     | refine x_block_exit _ ?_
     | refine x_block_past (by decide) ?_
     | refine z_tailm ?_)
     | (refine z_isg1 ?_; first
     | refine z_skipu (by decide) rfl rfl ?_
     | (refine z_want1 rfl rfl (by first | with_reducible rfl | with_reducible assumption | ((with_reducible refine decide_eq_true ?_); first | with_reducible rfl | with_reducible assumption | omega)) ?_)
     | (refine z_skip1 (by decide) rfl rfl (by first | with_reducible rfl | with_reducible assumption | ((with_reducible refine decide_eq_false ?_); first | with_reducible assumption | omega)) ?_)
     | (refine z_want1 rfl rfl (by first | (simp only [Bool.not_eq_true', decide_eq_false_iff_not]; omega) | (with_reducible assumption) | (rw [decide_eq_false] <;> (first | omega | with_reducible rfl)) | (rw [decide_eq_true] <;> (first | omega | with_reducible rfl)) | (simp; done) | (simp; omega)) ?_)
     | (refine z_skip1 (by decide) rfl rfl (by first | (simp only [Bool.not_eq_false', decide_eq_true_eq]; omega) | (with_reducible assumption) | (rw [decide_eq_false] <;> (first | omega | with_reducible rfl)) | (rw [decide_eq_true] <;> (first | omega | with_reducible rfl)) | (simp; done) | (simp; omega)) ?_)
     | refine z_guard1 (by decide) rfl rfl (fun hc => ?_) (fun hc => ?_)
     | refine z_guardb (by decide) rfl rfl (fun hc => ?_) (fun hc => ?_))
     | (refine z_isg0 ?_; first
     | refine z_skipu (by decide) rfl rfl ?_
     | (refine z_want0 rfl rfl (by first | with_reducible rfl | with_reducible assumption | ((with_reducible refine decide_eq_false ?_); first | with_reducible assumption | omega)) ?_)
     | (refine z_skip0 (by decide) rfl rfl (by first | with_reducible rfl | with_reducible assumption | ((with_reducible refine decide_eq_true ?_); first | with_reducible rfl | with_reducible assumption | omega)) ?_)
     | (refine z_want0 rfl rfl (by first | (simp only [Bool.not_eq_false', decide_eq_true_eq]; omega) | (with_reducible assumption) | (rw [decide_eq_false] <;> (first | omega | with_reducible rfl)) | (rw [decide_eq_true] <;> (first | omega | with_reducible rfl)) | (simp; done) | (simp; omega)) ?_)
     | (refine z_skip0 (by decide) rfl rfl (by first | (simp only [Bool.not_eq_true', decide_eq_false_iff_not]; omega) | (with_reducible assumption) | (rw [decide_eq_false] <;> (first | omega | with_reducible rfl)) | (rw [decide_eq_true] <;> (first | omega | with_reducible rfl)) | (simp; done) | (simp; omega)) ?_)
     | refine z_guard0 (by decide) rfl rfl (fun hc => ?_) (fun hc => ?_)
     | refine z_guardb (by decide) rfl rfl (fun hc => ?_) (fun hc => ?_))
     | (refine z_isnil ?_; first
     | refine z_keep1 ?_
     | refine z_keep2 ?_
     | refine z_list ?_
     | refine z_mixed ?_
     | refine z_mono0 ?_
     | refine z_mono1 (by decide) fun g => ?_
     | refine z_mono2 (by decide) (by decide) fun g g' => ?_
     | refine z_mixedx ?_
     | refine z_quiet ?_)
     | (refine z_isop ?_; first
     | refine o_indexsn tabOk (hne (by omega)) rfl rfl rfl rfl (by omega) (by omega) (by decide) ?_
     | refine o_boxa rfl rfl (by decide) fun g => ?_
     | refine o_alloca (e := 30) (vs := Sg.zero.cs) rfl (by kernel_rfl) (by decide) fun g => ?_
     | refine o_alloca (e := 26) (vs := Cx.zero.cs) rfl (by kernel_rfl) (by decide) fun g => ?_
     | refine o_alloca (e := 40) (vs := dCs 0 0 Cx.zero) rfl (by kernel_rfl) (by decide) fun g => ?_
     | refine o_buildf (t := 40) (zs := dCs 0 0 Cx.zero) tabOk rfl rfl (by kernel_rfl) rfl (d_fill _ _ _) (by decide) ?_
     | refine o_build (t := 26) (v := .agg Cx.zero.cs.toArray) rfl (fun _ => by kernel_rfl) (by decide) ?_
     | (refine z_isbin ?_; first
     | refine o_eqa cmp40 rfl rfl (d_typed _ _ _) (d_typed _ _ _) (by decide) ?_
     | refine o_eqa cmp26 rfl rfl (cx_typed _) (cx_typed _) (by decide) ?_
     | refine o_nea cmp26 rfl rfl (cx_typed _) (cx_typed _) (by decide) ?_
     | (refine z_isb .add ?_; first
     | refine o_add rfl rfl (by omega) (by omega) (by decide) ?_
     | refine o_addw rfl rfl (by decide) ?_)
     | (refine z_isb .eql ?_; first
     | refine o_eq rfl rfl (by decide) ?_
     | refine o_beq tabOk rfl rfl rfl (by decide) ?_
     | refine o_peq tabOk rfl rfl (by decide) ?_)
     | (refine z_isb .neq ?_; first
     | refine o_ne rfl rfl (by decide) ?_
     | refine o_bne tabOk rfl rfl rfl (by decide) ?_
     | refine o_pne tabOk rfl rfl (by decide) ?_)
     | (refine z_isb .lss ?_; first
     | refine o_lt rfl rfl (by decide) ?_))
     | (refine z_isload ?_; first
     | refine o_loadwk (by decide) tabOk rfl rfl rfl (List.mem_cons_of_mem _ List.mem_cons_self) (by first | exact sg_len _ | exact cx_len _ | exact d_len _ _ _ | exact de_len _ | exact rf_len _ | (simp only [sg_len, cx_len, d_len, de_len, rf_len]) | rfl) (by decide) ?_
     | (refine o_loadsw tabOk (Rds.cons _ (Rds.cons _ hrd)) rfl rfl rfl (es := e.cs) (de_len _) (by rw [de_len]; decide) (de_at D e he) (by decide) ?_)
     | refine o_loadp tabOk rfl rfl rfl 1 rfl (cx_len _) (de_c _) (by decide) ?_
     | refine o_loadp tabOk rfl rfl rfl 3 rfl (cx_len _) (de_c _) (by decide) ?_
     | refine o_loadp tabOk rfl rfl rfl 0 rfl (cx_len _) (d_c _ _ _) (by decide) ?_
     | refine o_loadp tabOk rfl rfl rfl 1 rfl (cx_len _) (d_c _ _ _) (by decide) ?_
     | refine o_loadp tabOk rfl rfl rfl 2 rfl (cx_len _) (d_c _ _ _) (by decide) ?_
     | (refine z_ld1 tabOk rfl rfl ?_; first
     | refine o_loadm tabOk rfl rfl rfl (by repeat' (first | exact List.mem_cons_self | apply List.mem_cons_of_mem)) (by first | exact d_pc _ _ _ | exact de_k _ | exact de_s _ | exact de_a _ | exact d_k _ _ _ | exact d_n _ _ _ | rfl) (by decide) ?_
     | refine o_loads tabOk (by first | assumption | exact Rds.cons _ (by assumption) | exact Rds.cons _ (Rds.cons _ (by assumption)) | exact own_rds 0 rfl | exact own_rds 1 rfl | exact own_rds 2 rfl) rfl rfl rfl (by first | exact d_pc _ _ _ | exact de_k _ | exact de_s _ | exact de_a _ | exact d_k _ _ _ | exact d_n _ _ _ | rfl) (by decide) ?_)
     | (refine z_ldw tabOk rfl rfl ?_; first
     | refine o_loadwm tabOk rfl rfl rfl (by repeat' (first | exact List.mem_cons_self | apply List.mem_cons_of_mem)) (by first | exact sg_len _ | exact cx_len _ | exact d_len _ _ _ | exact de_len _ | exact rf_len _ | (simp only [sg_len, cx_len, d_len, de_len, rf_len]) | rfl) (by decide) ?_))
     | (refine z_isstore ?_; first
     | refine o_storebk 0 tabOk rfl rfl rfl rfl (by first | exact sg_len _ | exact cx_len _ | exact d_len _ _ _ | exact de_len _ | exact rf_len _ | (simp only [sg_len, cx_len, d_len, de_len, rf_len]) | rfl) (by first | exact sg_one _ | exact cx_one _ | exact d_one _ _ _ | exact de_one _ | exact rf_one _ | rfl) (by first | exact sg_len _ | exact cx_len _ | exact d_len _ _ _ | exact de_len _ | exact rf_len _ | (simp only [sg_len, cx_len, d_len, de_len, rf_len]) | rfl) ?_
     | refine o_storebk 1 tabOk rfl rfl rfl rfl (by first | exact sg_len _ | exact cx_len _ | exact d_len _ _ _ | exact de_len _ | exact rf_len _ | (simp only [sg_len, cx_len, d_len, de_len, rf_len]) | rfl) (by first | exact sg_one _ | exact cx_one _ | exact d_one _ _ _ | exact de_one _ | exact rf_one _ | rfl) (by first | exact sg_len _ | exact cx_len _ | exact d_len _ _ _ | exact de_len _ | exact rf_len _ | (simp only [sg_len, cx_len, d_len, de_len, rf_len]) | rfl) ?_
     | (refine z_stw rfl ?_; first
     | ((refine z_sti 0 rfl rfl ?_; refine o_storeb0 rfl tabOk rfl rfl rfl (by first | exact sg_len _ | exact cx_len _ | exact d_len _ _ _ | exact de_len _ | exact rf_len _ | (simp only [sg_len, cx_len, d_len, de_len, rf_len]) | rfl) (by first | exact sg_one _ | exact cx_one _ | exact d_one _ _ _ | exact de_one _ | exact rf_one _ | rfl) (by first | exact sg_len _ | exact cx_len _ | exact d_len _ _ _ | exact de_len _ | exact rf_len _ | (simp only [sg_len, cx_len, d_len, de_len, rf_len]) | rfl) ?_))
     | ((refine z_sti 1 rfl rfl ?_; refine o_storeb1 rfl tabOk rfl rfl rfl (by first | exact sg_len _ | exact cx_len _ | exact d_len _ _ _ | exact de_len _ | exact rf_len _ | (simp only [sg_len, cx_len, d_len, de_len, rf_len]) | rfl) (by first | exact sg_one _ | exact cx_one _ | exact d_one _ _ _ | exact de_one _ | exact rf_one _ | rfl) (by first | exact sg_len _ | exact cx_len _ | exact d_len _ _ _ | exact de_len _ | exact rf_len _ | (simp only [sg_len, cx_len, d_len, de_len, rf_len]) | rfl) ?_))
     | ((refine z_sti 2 rfl rfl ?_; refine o_storeb2 rfl tabOk rfl rfl rfl (by first | exact sg_len _ | exact cx_len _ | exact d_len _ _ _ | exact de_len _ | exact rf_len _ | (simp only [sg_len, cx_len, d_len, de_len, rf_len]) | rfl) (by first | exact sg_one _ | exact cx_one _ | exact d_one _ _ _ | exact de_one _ | exact rf_one _ | rfl) (by first | exact sg_len _ | exact cx_len _ | exact d_len _ _ _ | exact de_len _ | exact rf_len _ | (simp only [sg_len, cx_len, d_len, de_len, rf_len]) | rfl) ?_))
     | ((refine z_sti 3 rfl rfl ?_; refine o_storeb3 rfl tabOk rfl rfl rfl (by first | exact sg_len _ | exact cx_len _ | exact d_len _ _ _ | exact de_len _ | exact rf_len _ | (simp only [sg_len, cx_len, d_len, de_len, rf_len]) | rfl) (by first | exact sg_one _ | exact cx_one _ | exact d_one _ _ _ | exact de_one _ | exact rf_one _ | rfl) (by first | exact sg_len _ | exact cx_len _ | exact d_len _ _ _ | exact de_len _ | exact rf_len _ | (simp only [sg_len, cx_len, d_len, de_len, rf_len]) | rfl) ?_))
     | ((refine z_sti 4 rfl rfl ?_; refine o_storeb4 rfl tabOk rfl rfl rfl (by first | exact sg_len _ | exact cx_len _ | exact d_len _ _ _ | exact de_len _ | exact rf_len _ | (simp only [sg_len, cx_len, d_len, de_len, rf_len]) | rfl) (by first | exact sg_one _ | exact cx_one _ | exact d_one _ _ _ | exact de_one _ | exact rf_one _ | rfl) (by first | exact sg_len _ | exact cx_len _ | exact d_len _ _ _ | exact de_len _ | exact rf_len _ | (simp only [sg_len, cx_len, d_len, de_len, rf_len]) | rfl) ?_))
     | ((refine z_sti 5 rfl rfl ?_; refine o_storeb5 rfl tabOk rfl rfl rfl (by first | exact sg_len _ | exact cx_len _ | exact d_len _ _ _ | exact de_len _ | exact rf_len _ | (simp only [sg_len, cx_len, d_len, de_len, rf_len]) | rfl) (by first | exact sg_one _ | exact cx_one _ | exact d_one _ _ _ | exact de_one _ | exact rf_one _ | rfl) (by first | exact sg_len _ | exact cx_len _ | exact d_len _ _ _ | exact de_len _ | exact rf_len _ | (simp only [sg_len, cx_len, d_len, de_len, rf_len]) | rfl) ?_))
     | ((refine z_sti 6 rfl rfl ?_; refine o_storeb6 rfl tabOk rfl rfl rfl (by first | exact sg_len _ | exact cx_len _ | exact d_len _ _ _ | exact de_len _ | exact rf_len _ | (simp only [sg_len, cx_len, d_len, de_len, rf_len]) | rfl) (by first | exact sg_one _ | exact cx_one _ | exact d_one _ _ _ | exact de_one _ | exact rf_one _ | rfl) (by first | exact sg_len _ | exact cx_len _ | exact d_len _ _ _ | exact de_len _ | exact rf_len _ | (simp only [sg_len, cx_len, d_len, de_len, rf_len]) | rfl) ?_)))
     | (refine z_st1 rfl rfl ?_; first
     | refine o_store rfl tabOk rfl rfl rfl rfl rfl (by first | exact d_pc _ _ _ | exact de_k _ | exact de_s _ | exact de_a _ | exact d_k _ _ _ | exact d_n _ _ _ | rfl) (by first | rfl) ?_
     | ((refine z_sti 1 rfl rfl ?_; refine o_store1 rfl tabOk rfl rfl rfl rfl rfl (by first | exact d_pc _ _ _ | exact de_k _ | exact de_s _ | exact de_a _ | exact d_k _ _ _ | exact d_n _ _ _ | rfl) (by first | rfl) ?_))
     | ((refine z_sti 2 rfl rfl ?_; refine o_store2 rfl tabOk rfl rfl rfl rfl rfl (by first | exact d_pc _ _ _ | exact de_k _ | exact de_s _ | exact de_a _ | exact d_k _ _ _ | exact d_n _ _ _ | rfl) (by first | rfl) ?_))
     | ((refine z_sti 3 rfl rfl ?_; refine o_store3 rfl tabOk rfl rfl rfl rfl rfl (by first | exact d_pc _ _ _ | exact de_k _ | exact de_s _ | exact de_a _ | exact d_k _ _ _ | exact d_n _ _ _ | rfl) (by first | rfl) ?_))
     | ((refine z_sti 4 rfl rfl ?_; refine o_store4 rfl tabOk rfl rfl rfl rfl rfl (by first | exact d_pc _ _ _ | exact de_k _ | exact de_s _ | exact de_a _ | exact d_k _ _ _ | exact d_n _ _ _ | rfl) (by first | rfl) ?_))
     | ((refine z_sti 5 rfl rfl ?_; refine o_store5 rfl tabOk rfl rfl rfl rfl rfl (by first | exact d_pc _ _ _ | exact de_k _ | exact de_s _ | exact de_a _ | exact d_k _ _ _ | exact d_n _ _ _ | rfl) (by first | rfl) ?_))
     | ((refine z_sti 6 rfl rfl ?_; refine o_store6 rfl tabOk rfl rfl rfl rfl rfl (by first | exact d_pc _ _ _ | exact de_k _ | exact de_s _ | exact de_a _ | exact d_k _ _ _ | exact d_n _ _ _ | rfl) (by first | rfl) ?_))))
     | (refine z_iscall ?_; first
     | ((refine z_iscallf 6 ?_; refine o_callka Tryd.func6 rfl rfl rfl hdo (by decide) ?_))
     | ((refine z_iscallf 9 ?_; refine o_fn rfl Tryd.func9 rfl rfl rfl (raise_fn _ _) (by decide) ?_))
     | ((refine z_iscallf 11 ?_; refine o_fn rfl Tryd.func11 rfl rfl rfl (ret_fn _) (by decide) ?_))
     | ((refine z_iscallf 10 ?_; refine o_fn rfl Tryd.func10 rfl rfl rfl (waits_fn _ _) (by decide) ?_)))
     | (refine z_ispick ?_; first
     | (refine o_pick1 rfl (by first | with_reducible rfl | with_reducible assumption | ((with_reducible refine decide_eq_true ?_); first | with_reducible rfl | with_reducible assumption | omega)) rfl (by decide) ?_)
     | (refine o_pick0 rfl (by first | with_reducible rfl | with_reducible assumption | ((with_reducible refine decide_eq_false ?_); first | with_reducible assumption | omega)) rfl (by decide) ?_)
     | (refine o_pick1 rfl (by first | (simp only [Bool.not_eq_true', decide_eq_false_iff_not]; omega) | (with_reducible assumption) | (rw [decide_eq_false] <;> (first | omega | with_reducible rfl)) | (rw [decide_eq_true] <;> (first | omega | with_reducible rfl)) | (simp; done) | (simp; omega)) rfl (by decide) ?_)
     | (refine o_pick0 rfl (by first | (simp only [Bool.not_eq_false', decide_eq_true_eq]; omega) | (with_reducible assumption) | (rw [decide_eq_false] <;> (first | omega | with_reducible rfl)) | (rw [decide_eq_true] <;> (first | omega | with_reducible rfl)) | (simp; done) | (simp; omega)) rfl (by decide) ?_))
     | (refine z_isix ?_; first
     | refine o_index0 tabOk rfl rfl rfl rfl (by omega) (by omega) (by decide) ?_
     | refine o_index1 tabOk rfl rfl rfl rfl (by omega) (by omega) (by decide) ?_
     | refine o_indexsk tabOk rfl rfl rfl rfl (by omega) (by omega) (by decide) ?_
     | refine o_indexs1 tabOk (by first | assumption) rfl rfl rfl rfl (by omega) (by omega) (by decide) ?_)
     | (refine z_isbi ?_; first
     | refine o_len tabOk rfl rfl (by decide) ?_
     | refine o_min rfl rfl (by decide) ?_
     | refine o_max rfl rfl (by decide) ?_)
     | refine o_move rfl (by decide) ?_
     | refine o_assign rfl (by decide) ?_
     | refine o_nil rfl (by decide) ?_
     | refine o_extract rfl rfl (by decide) ?_
     | refine o_not rfl (by decide) ?_
     | refine o_field0 tabOk rfl rfl rfl rfl rfl (by decide) ?_
     | refine o_field tabOk rfl rfl rfl rfl rfl (by decide) ?_
     | refine o_conv tabOk rfl rfl rfl (by decide) ?_))
  obtain ⟨r1, hre1, -⟩ := re_next hre 0 c
  have hz1 := next_z hre
  have ec : eqB c.cs c.cs = true := cx_same c
  by_cases hk : (s.next c).2.1 = 2
  · obtain ⟨hb1, hc1, hw1⟩ := next_handle hre c hk
    have hn1 := tri (s.next c)
    rw [hk] at hn1
    generalize (s.next c).1 = s1 at *
    generalize (s.next c).2.2.1 = m1 at *
    generalize (s.next c).2.2.2 = c1 at *
    have hz2 := next_z (re_raise hre1 t)
    by_cases htk : t = 1
    · subst htk
      have hn2 := kill_next hre1 d
      have e1 : decide ((if (1 : Int) ≤ 1 ∧ (1 : Int) ≤ 8 then (0 : Int) else 1) = 0) = true := by decide
      repeat' (first
       | (refine s_is ?_; first
       | (refine s_isret ?_; first
       | exact f_r1 rfl (res_t rfl) () trivial (by first | rfl | simp only [e1]) (fun w h => ((h.sel 7 [6, 0, 1, 2, 3, 4, 5] (by decide)).mask [true, false, false, false, false, false, false])))
       | (refine s_isw ?_; first
       | refine c_seq ?_
       | refine c_block ?_
       | refine c_region ?_
       | refine c_mixed mixed (by kernel_rfl) ?_
       | refine c_skip ?_
       | refine c_ret ?_
       | refine c_exit ?_
       | (refine s_iscond ?_; first
       | (refine c_true rfl (by first | with_reducible rfl | with_reducible assumption | ((with_reducible refine decide_eq_true ?_); first | with_reducible rfl | with_reducible assumption | omega)) ?_)
       | (refine c_false rfl (by first | with_reducible rfl | with_reducible assumption | ((with_reducible refine decide_eq_false ?_); first | with_reducible assumption | omega)) ?_)
       | (refine c_true rfl (by first | (simp only [Bool.not_eq_true', decide_eq_false_iff_not]; omega) | (with_reducible assumption) | (rw [decide_eq_false] <;> (first | omega | with_reducible rfl)) | (rw [decide_eq_true] <;> (first | omega | with_reducible rfl)) | (simp; done) | (simp; omega)) ?_)
       | (refine c_false rfl (by first | (simp only [Bool.not_eq_false', decide_eq_true_eq]; omega) | (with_reducible assumption) | (rw [decide_eq_false] <;> (first | omega | with_reducible rfl)) | (rw [decide_eq_true] <;> (first | omega | with_reducible rfl)) | (simp; done) | (simp; omega)) ?_)
       | refine c_cond rfl (fun hc => ?_) (fun hc => ?_)
       | refine c_condb rfl (fun hc => ?_) (fun hc => ?_)))
       | refine x_then ?_
       | refine x_then_ret ?_
       | refine x_then_exit ?_
       | refine x_block _ ?_
       | refine x_block_ret _ ?_
       | refine x_block_exit _ ?_
       | refine x_block_past (by decide) ?_
       | refine z_tailm ?_)
       | (refine z_isg1 ?_; first
       | refine z_skipu (by decide) rfl rfl ?_
       | (refine z_want1 rfl rfl (by first | with_reducible rfl | with_reducible assumption | ((with_reducible refine decide_eq_true ?_); first | with_reducible rfl | with_reducible assumption | omega)) ?_)
       | (refine z_skip1 (by decide) rfl rfl (by first | with_reducible rfl | with_reducible assumption | ((with_reducible refine decide_eq_false ?_); first | with_reducible assumption | omega)) ?_)
       | (refine z_want1 rfl rfl (by first | (simp only [Bool.not_eq_true', decide_eq_false_iff_not]; omega) | (with_reducible assumption) | (rw [decide_eq_false] <;> (first | omega | with_reducible rfl)) | (rw [decide_eq_true] <;> (first | omega | with_reducible rfl)) | (simp; done) | (simp; omega)) ?_)
       | (refine z_skip1 (by decide) rfl rfl (by first | (simp only [Bool.not_eq_false', decide_eq_true_eq]; omega) | (with_reducible assumption) | (rw [decide_eq_false] <;> (first | omega | with_reducible rfl)) | (rw [decide_eq_true] <;> (first | omega | with_reducible rfl)) | (simp; done) | (simp; omega)) ?_)
       | refine z_guard1 (by decide) rfl rfl (fun hc => ?_) (fun hc => ?_)
       | refine z_guardb (by decide) rfl rfl (fun hc => ?_) (fun hc => ?_))
       | (refine z_isg0 ?_; first
       | refine z_skipu (by decide) rfl rfl ?_
       | (refine z_want0 rfl rfl (by first | with_reducible rfl | with_reducible assumption | ((with_reducible refine decide_eq_false ?_); first | with_reducible assumption | omega)) ?_)
       | (refine z_skip0 (by decide) rfl rfl (by first | with_reducible rfl | with_reducible assumption | ((with_reducible refine decide_eq_true ?_); first | with_reducible rfl | with_reducible assumption | omega)) ?_)
       | (refine z_want0 rfl rfl (by first | (simp only [Bool.not_eq_false', decide_eq_true_eq]; omega) | (with_reducible assumption) | (rw [decide_eq_false] <;> (first | omega | with_reducible rfl)) | (rw [decide_eq_true] <;> (first | omega | with_reducible rfl)) | (simp; done) | (simp; omega)) ?_)
       | (refine z_skip0 (by decide) rfl rfl (by first | (simp only [Bool.not_eq_true', decide_eq_false_iff_not]; omega) | (with_reducible assumption) | (rw [decide_eq_false] <;> (first | omega | with_reducible rfl)) | (rw [decide_eq_true] <;> (first | omega | with_reducible rfl)) | (simp; done) | (simp; omega)) ?_)
       | refine z_guard0 (by decide) rfl rfl (fun hc => ?_) (fun hc => ?_)
       | refine z_guardb (by decide) rfl rfl (fun hc => ?_) (fun hc => ?_))
       | (refine z_isnil ?_; first
       | refine z_keep1 ?_
       | refine z_keep2 ?_
       | refine z_list ?_
       | refine z_mixed ?_
       | refine z_mono0 ?_
       | refine z_mono1 (by decide) fun g => ?_
       | refine z_mono2 (by decide) (by decide) fun g g' => ?_
       | refine z_mixedx ?_
       | refine z_quiet ?_)
       | (refine z_isop ?_; first
       | refine o_boxa rfl rfl (by decide) fun g => ?_
       | refine o_alloca (e := 30) (vs := Sg.zero.cs) rfl (by kernel_rfl) (by decide) fun g => ?_
       | refine o_alloca (e := 26) (vs := Cx.zero.cs) rfl (by kernel_rfl) (by decide) fun g => ?_
       | refine o_alloca (e := 40) (vs := dCs 0 0 Cx.zero) rfl (by kernel_rfl) (by decide) fun g => ?_
       | refine o_buildf (t := 40) (zs := dCs 0 0 Cx.zero) tabOk rfl rfl (by kernel_rfl) rfl (d_fill _ _ _) (by decide) ?_
       | refine o_build (t := 26) (v := .agg Cx.zero.cs.toArray) rfl (fun _ => by kernel_rfl) (by decide) ?_
       | (refine z_isbin ?_; first
       | refine o_eqa cmp40 rfl rfl (d_typed _ _ _) (d_typed _ _ _) (by decide) ?_
       | refine o_eqa cmp26 rfl rfl (cx_typed _) (cx_typed _) (by decide) ?_
       | refine o_nea cmp26 rfl rfl (cx_typed _) (cx_typed _) (by decide) ?_
       | (refine z_isb .add ?_; first
       | refine o_add rfl rfl (by omega) (by omega) (by decide) ?_
       | refine o_addw rfl rfl (by decide) ?_)
       | (refine z_isb .eql ?_; first
       | refine o_eq rfl rfl (by decide) ?_
       | refine o_beq tabOk rfl rfl rfl (by decide) ?_
       | refine o_peq tabOk rfl rfl (by decide) ?_)
       | (refine z_isb .neq ?_; first
       | refine o_ne rfl rfl (by decide) ?_
       | refine o_bne tabOk rfl rfl rfl (by decide) ?_
       | refine o_pne tabOk rfl rfl (by decide) ?_)
       | (refine z_isb .lss ?_; first
       | refine o_lt rfl rfl (by decide) ?_))
       | (refine z_isload ?_; first
       | refine o_loadp tabOk rfl rfl rfl 1 rfl (cx_len _) (de_c _) (by decide) ?_
       | refine o_loadp tabOk rfl rfl rfl 3 rfl (cx_len _) (de_c _) (by decide) ?_
       | refine o_loadp tabOk rfl rfl rfl 0 rfl (cx_len _) (d_c _ _ _) (by decide) ?_
       | refine o_loadp tabOk rfl rfl rfl 1 rfl (cx_len _) (d_c _ _ _) (by decide) ?_
       | refine o_loadp tabOk rfl rfl rfl 2 rfl (cx_len _) (d_c _ _ _) (by decide) ?_
       | (refine z_ld1 tabOk rfl rfl ?_; first
       | refine o_loadm tabOk rfl rfl rfl (by repeat' (first | exact List.mem_cons_self | apply List.mem_cons_of_mem)) (by first | exact d_pc _ _ _ | exact de_k _ | exact de_s _ | exact de_a _ | exact d_k _ _ _ | exact d_n _ _ _ | rfl) (by decide) ?_
       | refine o_loads tabOk (by first | assumption | exact Rds.cons _ (by assumption) | exact Rds.cons _ (Rds.cons _ (by assumption)) | exact own_rds 0 rfl | exact own_rds 1 rfl | exact own_rds 2 rfl) rfl rfl rfl (by first | exact d_pc _ _ _ | exact de_k _ | exact de_s _ | exact de_a _ | exact d_k _ _ _ | exact d_n _ _ _ | rfl) (by decide) ?_)
       | (refine z_ldw tabOk rfl rfl ?_; first
       | refine o_loadwm tabOk rfl rfl rfl (by repeat' (first | exact List.mem_cons_self | apply List.mem_cons_of_mem)) (by first | exact sg_len _ | exact cx_len _ | exact d_len _ _ _ | exact de_len _ | exact rf_len _ | (simp only [sg_len, cx_len, d_len, de_len, rf_len]) | rfl) (by decide) ?_))
       | (refine z_isstore ?_; first
       | refine o_storebk 0 tabOk rfl rfl rfl rfl (by first | exact sg_len _ | exact cx_len _ | exact d_len _ _ _ | exact de_len _ | exact rf_len _ | (simp only [sg_len, cx_len, d_len, de_len, rf_len]) | rfl) (by first | exact sg_one _ | exact cx_one _ | exact d_one _ _ _ | exact de_one _ | exact rf_one _ | rfl) (by first | exact sg_len _ | exact cx_len _ | exact d_len _ _ _ | exact de_len _ | exact rf_len _ | (simp only [sg_len, cx_len, d_len, de_len, rf_len]) | rfl) ?_
       | refine o_storebk 1 tabOk rfl rfl rfl rfl (by first | exact sg_len _ | exact cx_len _ | exact d_len _ _ _ | exact de_len _ | exact rf_len _ | (simp only [sg_len, cx_len, d_len, de_len, rf_len]) | rfl) (by first | exact sg_one _ | exact cx_one _ | exact d_one _ _ _ | exact de_one _ | exact rf_one _ | rfl) (by first | exact sg_len _ | exact cx_len _ | exact d_len _ _ _ | exact de_len _ | exact rf_len _ | (simp only [sg_len, cx_len, d_len, de_len, rf_len]) | rfl) ?_
       | (refine z_stw rfl ?_; first
       | ((refine z_sti 0 rfl rfl ?_; refine o_storeb0 rfl tabOk rfl rfl rfl (by first | exact sg_len _ | exact cx_len _ | exact d_len _ _ _ | exact de_len _ | exact rf_len _ | (simp only [sg_len, cx_len, d_len, de_len, rf_len]) | rfl) (by first | exact sg_one _ | exact cx_one _ | exact d_one _ _ _ | exact de_one _ | exact rf_one _ | rfl) (by first | exact sg_len _ | exact cx_len _ | exact d_len _ _ _ | exact de_len _ | exact rf_len _ | (simp only [sg_len, cx_len, d_len, de_len, rf_len]) | rfl) ?_))
       | ((refine z_sti 1 rfl rfl ?_; refine o_storeb1 rfl tabOk rfl rfl rfl (by first | exact sg_len _ | exact cx_len _ | exact d_len _ _ _ | exact de_len _ | exact rf_len _ | (simp only [sg_len, cx_len, d_len, de_len, rf_len]) | rfl) (by first | exact sg_one _ | exact cx_one _ | exact d_one _ _ _ | exact de_one _ | exact rf_one _ | rfl) (by first | exact sg_len _ | exact cx_len _ | exact d_len _ _ _ | exact de_len _ | exact rf_len _ | (simp only [sg_len, cx_len, d_len, de_len, rf_len]) | rfl) ?_))
       | ((refine z_sti 2 rfl rfl ?_; refine o_storeb2 rfl tabOk rfl rfl rfl (by first | exact sg_len _ | exact cx_len _ | exact d_len _ _ _ | exact de_len _ | exact rf_len _ | (simp only [sg_len, cx_len, d_len, de_len, rf_len]) | rfl) (by first | exact sg_one _ | exact cx_one _ | exact d_one _ _ _ | exact de_one _ | exact rf_one _ | rfl) (by first | exact sg_len _ | exact cx_len _ | exact d_len _ _ _ | exact de_len _ | exact rf_len _ | (simp only [sg_len, cx_len, d_len, de_len, rf_len]) | rfl) ?_))
       | ((refine z_sti 3 rfl rfl ?_; refine o_storeb3 rfl tabOk rfl rfl rfl (by first | exact sg_len _ | exact cx_len _ | exact d_len _ _ _ | exact de_len _ | exact rf_len _ | (simp only [sg_len, cx_len, d_len, de_len, rf_len]) | rfl) (by first | exact sg_one _ | exact cx_one _ | exact d_one _ _ _ | exact de_one _ | exact rf_one _ | rfl) (by first | exact sg_len _ | exact cx_len _ | exact d_len _ _ _ | exact de_len _ | exact rf_len _ | (simp only [sg_len, cx_len, d_len, de_len, rf_len]) | rfl) ?_))
       | ((refine z_sti 4 rfl rfl ?_; refine o_storeb4 rfl tabOk rfl rfl rfl (by first | exact sg_len _ | exact cx_len _ | exact d_len _ _ _ | exact de_len _ | exact rf_len _ | (simp only [sg_len, cx_len, d_len, de_len, rf_len]) | rfl) (by first | exact sg_one _ | exact cx_one _ | exact d_one _ _ _ | exact de_one _ | exact rf_one _ | rfl) (by first | exact sg_len _ | exact cx_len _ | exact d_len _ _ _ | exact de_len _ | exact rf_len _ | (simp only [sg_len, cx_len, d_len, de_len, rf_len]) | rfl) ?_))
       | ((refine z_sti 5 rfl rfl ?_; refine o_storeb5 rfl tabOk rfl rfl rfl (by first | exact sg_len _ | exact cx_len _ | exact d_len _ _ _ | exact de_len _ | exact rf_len _ | (simp only [sg_len, cx_len, d_len, de_len, rf_len]) | rfl) (by first | exact sg_one _ | exact cx_one _ | exact d_one _ _ _ | exact de_one _ | exact rf_one _ | rfl) (by first | exact sg_len _ | exact cx_len _ | exact d_len _ _ _ | exact de_len _ | exact rf_len _ | (simp only [sg_len, cx_len, d_len, de_len, rf_len]) | rfl) ?_))
       | ((refine z_sti 6 rfl rfl ?_; refine o_storeb6 rfl tabOk rfl rfl rfl (by first | exact sg_len _ | exact cx_len _ | exact d_len _ _ _ | exact de_len _ | exact rf_len _ | (simp only [sg_len, cx_len, d_len, de_len, rf_len]) | rfl) (by first | exact sg_one _ | exact cx_one _ | exact d_one _ _ _ | exact de_one _ | exact rf_one _ | rfl) (by first | exact sg_len _ | exact cx_len _ | exact d_len _ _ _ | exact de_len _ | exact rf_len _ | (simp only [sg_len, cx_len, d_len, de_len, rf_len]) | rfl) ?_)))
       | (refine z_st1 rfl rfl ?_; first
       | refine o_store rfl tabOk rfl rfl rfl rfl rfl (by first | exact d_pc _ _ _ | exact de_k _ | exact de_s _ | exact de_a _ | exact d_k _ _ _ | exact d_n _ _ _ | rfl) (by first | rfl) ?_
       | ((refine z_sti 1 rfl rfl ?_; refine o_store1 rfl tabOk rfl rfl rfl rfl rfl (by first | exact d_pc _ _ _ | exact de_k _ | exact de_s _ | exact de_a _ | exact d_k _ _ _ | exact d_n _ _ _ | rfl) (by first | rfl) ?_))
       | ((refine z_sti 2 rfl rfl ?_; refine o_store2 rfl tabOk rfl rfl rfl rfl rfl (by first | exact d_pc _ _ _ | exact de_k _ | exact de_s _ | exact de_a _ | exact d_k _ _ _ | exact d_n _ _ _ | rfl) (by first | rfl) ?_))
       | ((refine z_sti 3 rfl rfl ?_; refine o_store3 rfl tabOk rfl rfl rfl rfl rfl (by first | exact d_pc _ _ _ | exact de_k _ | exact de_s _ | exact de_a _ | exact d_k _ _ _ | exact d_n _ _ _ | rfl) (by first | rfl) ?_))
       | ((refine z_sti 4 rfl rfl ?_; refine o_store4 rfl tabOk rfl rfl rfl rfl rfl (by first | exact d_pc _ _ _ | exact de_k _ | exact de_s _ | exact de_a _ | exact d_k _ _ _ | exact d_n _ _ _ | rfl) (by first | rfl) ?_))
       | ((refine z_sti 5 rfl rfl ?_; refine o_store5 rfl tabOk rfl rfl rfl rfl rfl (by first | exact d_pc _ _ _ | exact de_k _ | exact de_s _ | exact de_a _ | exact d_k _ _ _ | exact d_n _ _ _ | rfl) (by first | rfl) ?_))
       | ((refine z_sti 6 rfl rfl ?_; refine o_store6 rfl tabOk rfl rfl rfl rfl rfl (by first | exact d_pc _ _ _ | exact de_k _ | exact de_s _ | exact de_a _ | exact d_k _ _ _ | exact d_n _ _ _ | rfl) (by first | rfl) ?_))))
       | (refine z_iscall ?_; first
       | ((refine z_iscallf 7 ?_; refine z_isdst 45 ?_; refine o_calla Tryd.func7 rfl rfl rfl (next_v _ _ _ _ _ _ hn1 _ (by repeat (first | exact hT | apply Rds.cons)) hz1) (by decide) fun _ _ => ?_))
       | ((refine z_iscallf 7 ?_; refine o_calla Tryd.func7 rfl rfl rfl (next_v _ _ _ _ _ _ hn2 _ (by repeat (first | exact hT | apply Rds.cons)) hz2) (by decide) fun _ _ => ?_))
       | ((refine z_iscallf 8 ?_; refine o_calla Tryd.func8 rfl rfl rfl (awake_c _ (by repeat (first | exact hT | apply Rds.cons))) (by decide) fun _ _ => ?_))
       | ((refine z_iscallf 9 ?_; refine o_fn rfl Tryd.func9 rfl rfl rfl (raise_fn _ _) (by decide) ?_))
       | ((refine z_iscallf 11 ?_; refine o_fn rfl Tryd.func11 rfl rfl rfl (ret_fn _) (by decide) ?_))
       | ((refine z_iscallf 10 ?_; refine o_fn rfl Tryd.func10 rfl rfl rfl (waits_fn _ _) (by decide) ?_)))
       | (refine z_ispick ?_; first
       | (refine o_pick1 rfl (by first | with_reducible rfl | with_reducible assumption | ((with_reducible refine decide_eq_true ?_); first | with_reducible rfl | with_reducible assumption | omega)) rfl (by decide) ?_)
       | (refine o_pick0 rfl (by first | with_reducible rfl | with_reducible assumption | ((with_reducible refine decide_eq_false ?_); first | with_reducible assumption | omega)) rfl (by decide) ?_)
       | (refine o_pick1 rfl (by first | (simp only [Bool.not_eq_true', decide_eq_false_iff_not]; omega) | (with_reducible assumption) | (rw [decide_eq_false] <;> (first | omega | with_reducible rfl)) | (rw [decide_eq_true] <;> (first | omega | with_reducible rfl)) | (simp; done) | (simp; omega)) rfl (by decide) ?_)
       | (refine o_pick0 rfl (by first | (simp only [Bool.not_eq_false', decide_eq_true_eq]; omega) | (with_reducible assumption) | (rw [decide_eq_false] <;> (first | omega | with_reducible rfl)) | (rw [decide_eq_true] <;> (first | omega | with_reducible rfl)) | (simp; done) | (simp; omega)) rfl (by decide) ?_))
       | (refine z_isix ?_; first
       | refine o_index0 tabOk rfl rfl rfl rfl (by omega) (by omega) (by decide) ?_
       | refine o_index1 tabOk rfl rfl rfl rfl (by omega) (by omega) (by decide) ?_
       | refine o_indexsk tabOk rfl rfl rfl rfl (by omega) (by omega) (by decide) ?_
       | refine o_indexs1 tabOk (by first | assumption) rfl rfl rfl rfl (by omega) (by omega) (by decide) ?_)
       | (refine z_isbi ?_; first
       | refine o_len tabOk rfl rfl (by decide) ?_
       | refine o_min rfl rfl (by decide) ?_
       | refine o_max rfl rfl (by decide) ?_)
       | refine o_move rfl (by decide) ?_
       | refine o_assign rfl (by decide) ?_
       | refine o_nil rfl (by decide) ?_
       | refine o_extract rfl rfl (by decide) ?_
       | refine o_not rfl (by decide) ?_
       | refine o_field0 tabOk rfl rfl rfl rfl rfl (by decide) ?_
       | refine o_field tabOk rfl rfl rfl rfl rfl (by decide) ?_
       | refine o_conv tabOk rfl rfl rfl (by decide) ?_))
    · have hn2 := raise_meanwhile hre1 d t hw1 hb1 htk
      have e0 : decide (t = 1) = false := by simp [htk]
      have en : (!eqB d.cs d.cs) = false := by rw [cx_same]; rfl
      have hbb : (s1.raise t).b = true := (raise_busy s1 t).1.trans hb1
      have hcc : (if (s1.raise t).b then (s1.raise t).c else Cx.zero) = c := by rw [hbb, (raise_busy s1 t).2, hc1]; rfl
      have ebc : eqB (if (s1.raise t).b then (s1.raise t).c else Cx.zero).cs c.cs = true := by rw [hcc]; exact cx_same c
      by_cases ht : 1 ≤ t ∧ t ≤ 8
      · have e2 : decide ((if (1 : Int) ≤ t ∧ t ≤ 8 then (0 : Int) else 1) = 0) = true := by rw [if_pos ht]; rfl
        have ew : (!(s1.raise t).waits t) = false := by rw [raise_waits hre1 ht ht]; simp
        repeat' (first
         | (refine s_is ?_; first
         | (refine s_isret ?_; first
         | exact f_r1 rfl (res_t rfl) () trivial (by first | rfl | simp only [hbb]) (fun w h => ((h.sel 9 [8, 0, 1, 2, 3, 4, 5, 6, 7] (by decide)).mask [true, false, false, false, false, false, false, false, false])))
         | (refine s_isw ?_; first
         | refine c_seq ?_
         | refine c_block ?_
         | refine c_region ?_
         | refine c_mixed mixed (by kernel_rfl) ?_
         | refine c_skip ?_
         | refine c_ret ?_
         | refine c_exit ?_
         | (refine s_iscond ?_; first
         | (refine c_true rfl (by first | with_reducible rfl | with_reducible assumption | ((with_reducible refine decide_eq_true ?_); first | with_reducible rfl | with_reducible assumption | omega)) ?_)
         | (refine c_false rfl (by first | with_reducible rfl | with_reducible assumption | ((with_reducible refine decide_eq_false ?_); first | with_reducible assumption | omega)) ?_)
         | (refine c_true rfl (by first | (simp only [Bool.not_eq_true', decide_eq_false_iff_not]; omega) | (with_reducible assumption) | (rw [decide_eq_false] <;> (first | omega | with_reducible rfl)) | (rw [decide_eq_true] <;> (first | omega | with_reducible rfl)) | (simp; done) | (simp; omega)) ?_)
         | (refine c_false rfl (by first | (simp only [Bool.not_eq_false', decide_eq_true_eq]; omega) | (with_reducible assumption) | (rw [decide_eq_false] <;> (first | omega | with_reducible rfl)) | (rw [decide_eq_true] <;> (first | omega | with_reducible rfl)) | (simp; done) | (simp; omega)) ?_)
         | refine c_cond rfl (fun hc => ?_) (fun hc => ?_)
         | refine c_condb rfl (fun hc => ?_) (fun hc => ?_)))
         | refine x_then ?_
         | refine x_then_ret ?_
         | refine x_then_exit ?_
         | refine x_block _ ?_
         | refine x_block_ret _ ?_
         | refine x_block_exit _ ?_
         | refine x_block_past (by decide) ?_
         | refine z_tailm ?_)
         | (refine z_isg1 ?_; first
         | refine z_skipu (by decide) rfl rfl ?_
         | (refine z_want1 rfl rfl (by first | with_reducible rfl | with_reducible assumption | ((with_reducible refine decide_eq_true ?_); first | with_reducible rfl | with_reducible assumption | omega)) ?_)
         | (refine z_skip1 (by decide) rfl rfl (by first | with_reducible rfl | with_reducible assumption | ((with_reducible refine decide_eq_false ?_); first | with_reducible assumption | omega)) ?_)
         | (refine z_want1 rfl rfl (by first | (simp only [Bool.not_eq_true', decide_eq_false_iff_not]; omega) | (with_reducible assumption) | (rw [decide_eq_false] <;> (first | omega | with_reducible rfl)) | (rw [decide_eq_true] <;> (first | omega | with_reducible rfl)) | (simp; done) | (simp; omega)) ?_)
         | (refine z_skip1 (by decide) rfl rfl (by first | (simp only [Bool.not_eq_false', decide_eq_true_eq]; omega) | (with_reducible assumption) | (rw [decide_eq_false] <;> (first | omega | with_reducible rfl)) | (rw [decide_eq_true] <;> (first | omega | with_reducible rfl)) | (simp; done) | (simp; omega)) ?_)
         | refine z_guard1 (by decide) rfl rfl (fun hc => ?_) (fun hc => ?_)
         | refine z_guardb (by decide) rfl rfl (fun hc => ?_) (fun hc => ?_))
         | (refine z_isg0 ?_; first
         | refine z_skipu (by decide) rfl rfl ?_
         | (refine z_want0 rfl rfl (by first | with_reducible rfl | with_reducible assumption | ((with_reducible refine decide_eq_false ?_); first | with_reducible assumption | omega)) ?_)
         | (refine z_skip0 (by decide) rfl rfl (by first | with_reducible rfl | with_reducible assumption | ((with_reducible refine decide_eq_true ?_); first | with_reducible rfl | with_reducible assumption | omega)) ?_)
         | (refine z_want0 rfl rfl (by first | (simp only [Bool.not_eq_false', decide_eq_true_eq]; omega) | (with_reducible assumption) | (rw [decide_eq_false] <;> (first | omega | with_reducible rfl)) | (rw [decide_eq_true] <;> (first | omega | with_reducible rfl)) | (simp; done) | (simp; omega)) ?_)
         | (refine z_skip0 (by decide) rfl rfl (by first | (simp only [Bool.not_eq_true', decide_eq_false_iff_not]; omega) | (with_reducible assumption) | (rw [decide_eq_false] <;> (first | omega | with_reducible rfl)) | (rw [decide_eq_true] <;> (first | omega | with_reducible rfl)) | (simp; done) | (simp; omega)) ?_)
         | refine z_guard0 (by decide) rfl rfl (fun hc => ?_) (fun hc => ?_)
         | refine z_guardb (by decide) rfl rfl (fun hc => ?_) (fun hc => ?_))
         | (refine z_isnil ?_; first
         | refine z_keep1 ?_
         | refine z_keep2 ?_
         | refine z_list ?_
         | refine z_mixed ?_
         | refine z_mono0 ?_
         | refine z_mono1 (by decide) fun g => ?_
         | refine z_mono2 (by decide) (by decide) fun g g' => ?_
         | refine z_mixedx ?_
         | refine z_quiet ?_)
         | (refine z_isop ?_; first
         | refine o_boxa rfl rfl (by decide) fun g => ?_
         | refine o_alloca (e := 30) (vs := Sg.zero.cs) rfl (by kernel_rfl) (by decide) fun g => ?_
         | refine o_alloca (e := 26) (vs := Cx.zero.cs) rfl (by kernel_rfl) (by decide) fun g => ?_
         | refine o_alloca (e := 40) (vs := dCs 0 0 Cx.zero) rfl (by kernel_rfl) (by decide) fun g => ?_
         | refine o_buildf (t := 40) (zs := dCs 0 0 Cx.zero) tabOk rfl rfl (by kernel_rfl) rfl (d_fill _ _ _) (by decide) ?_
         | refine o_build (t := 26) (v := .agg Cx.zero.cs.toArray) rfl (fun _ => by kernel_rfl) (by decide) ?_
         | (refine z_isbin ?_; first
         | refine o_eqa cmp40 rfl rfl (d_typed _ _ _) (d_typed _ _ _) (by decide) ?_
         | refine o_eqa cmp26 rfl rfl (cx_typed _) (cx_typed _) (by decide) ?_
         | refine o_nea cmp26 rfl rfl (cx_typed _) (cx_typed _) (by decide) ?_
         | (refine z_isb .add ?_; first
         | refine o_add rfl rfl (by omega) (by omega) (by decide) ?_
         | refine o_addw rfl rfl (by decide) ?_)
         | (refine z_isb .eql ?_; first
         | refine o_eq rfl rfl (by decide) ?_
         | refine o_beq tabOk rfl rfl rfl (by decide) ?_
         | refine o_peq tabOk rfl rfl (by decide) ?_)
         | (refine z_isb .neq ?_; first
         | refine o_ne rfl rfl (by decide) ?_
         | refine o_bne tabOk rfl rfl rfl (by decide) ?_
         | refine o_pne tabOk rfl rfl (by decide) ?_)
         | (refine z_isb .lss ?_; first
         | refine o_lt rfl rfl (by decide) ?_))
         | (refine z_isload ?_; first
         | refine o_loadp tabOk rfl rfl rfl 1 rfl (cx_len _) (de_c _) (by decide) ?_
         | refine o_loadp tabOk rfl rfl rfl 3 rfl (cx_len _) (de_c _) (by decide) ?_
         | refine o_loadp tabOk rfl rfl rfl 0 rfl (cx_len _) (d_c _ _ _) (by decide) ?_
         | refine o_loadp tabOk rfl rfl rfl 1 rfl (cx_len _) (d_c _ _ _) (by decide) ?_
         | refine o_loadp tabOk rfl rfl rfl 2 rfl (cx_len _) (d_c _ _ _) (by decide) ?_
         | (refine z_ld1 tabOk rfl rfl ?_; first
         | refine o_loadm tabOk rfl rfl rfl (by repeat' (first | exact List.mem_cons_self | apply List.mem_cons_of_mem)) (by first | exact d_pc _ _ _ | exact de_k _ | exact de_s _ | exact de_a _ | exact d_k _ _ _ | exact d_n _ _ _ | rfl) (by decide) ?_
         | refine o_loads tabOk (by first | assumption | exact Rds.cons _ (by assumption) | exact Rds.cons _ (Rds.cons _ (by assumption)) | exact own_rds 0 rfl | exact own_rds 1 rfl | exact own_rds 2 rfl) rfl rfl rfl (by first | exact d_pc _ _ _ | exact de_k _ | exact de_s _ | exact de_a _ | exact d_k _ _ _ | exact d_n _ _ _ | rfl) (by decide) ?_)
         | (refine z_ldw tabOk rfl rfl ?_; first
         | refine o_loadwm tabOk rfl rfl rfl (by repeat' (first | exact List.mem_cons_self | apply List.mem_cons_of_mem)) (by first | exact sg_len _ | exact cx_len _ | exact d_len _ _ _ | exact de_len _ | exact rf_len _ | (simp only [sg_len, cx_len, d_len, de_len, rf_len]) | rfl) (by decide) ?_))
         | (refine z_isstore ?_; first
         | refine o_storebk 0 tabOk rfl rfl rfl rfl (by first | exact sg_len _ | exact cx_len _ | exact d_len _ _ _ | exact de_len _ | exact rf_len _ | (simp only [sg_len, cx_len, d_len, de_len, rf_len]) | rfl) (by first | exact sg_one _ | exact cx_one _ | exact d_one _ _ _ | exact de_one _ | exact rf_one _ | rfl) (by first | exact sg_len _ | exact cx_len _ | exact d_len _ _ _ | exact de_len _ | exact rf_len _ | (simp only [sg_len, cx_len, d_len, de_len, rf_len]) | rfl) ?_
         | refine o_storebk 1 tabOk rfl rfl rfl rfl (by first | exact sg_len _ | exact cx_len _ | exact d_len _ _ _ | exact de_len _ | exact rf_len _ | (simp only [sg_len, cx_len, d_len, de_len, rf_len]) | rfl) (by first | exact sg_one _ | exact cx_one _ | exact d_one _ _ _ | exact de_one _ | exact rf_one _ | rfl) (by first | exact sg_len _ | exact cx_len _ | exact d_len _ _ _ | exact de_len _ | exact rf_len _ | (simp only [sg_len, cx_len, d_len, de_len, rf_len]) | rfl) ?_
         | (refine z_stw rfl ?_; first
         | ((refine z_sti 0 rfl rfl ?_; refine o_storeb0 rfl tabOk rfl rfl rfl (by first | exact sg_len _ | exact cx_len _ | exact d_len _ _ _ | exact de_len _ | exact rf_len _ | (simp only [sg_len, cx_len, d_len, de_len, rf_len]) | rfl) (by first | exact sg_one _ | exact cx_one _ | exact d_one _ _ _ | exact de_one _ | exact rf_one _ | rfl) (by first | exact sg_len _ | exact cx_len _ | exact d_len _ _ _ | exact de_len _ | exact rf_len _ | (simp only [sg_len, cx_len, d_len, de_len, rf_len]) | rfl) ?_))
         | ((refine z_sti 1 rfl rfl ?_; refine o_storeb1 rfl tabOk rfl rfl rfl (by first | exact sg_len _ | exact cx_len _ | exact d_len _ _ _ | exact de_len _ | exact rf_len _ | (simp only [sg_len, cx_len, d_len, de_len, rf_len]) | rfl) (by first | exact sg_one _ | exact cx_one _ | exact d_one _ _ _ | exact de_one _ | exact rf_one _ | rfl) (by first | exact sg_len _ | exact cx_len _ | exact d_len _ _ _ | exact de_len _ | exact rf_len _ | (simp only [sg_len, cx_len, d_len, de_len, rf_len]) | rfl) ?_))
         | ((refine z_sti 2 rfl rfl ?_; refine o_storeb2 rfl tabOk rfl rfl rfl (by first | exact sg_len _ | exact cx_len _ | exact d_len _ _ _ | exact de_len _ | exact rf_len _ | (simp only [sg_len, cx_len, d_len, de_len, rf_len]) | rfl) (by first | exact sg_one _ | exact cx_one _ | exact d_one _ _ _ | exact de_one _ | exact rf_one _ | rfl) (by first | exact sg_len _ | exact cx_len _ | exact d_len _ _ _ | exact de_len _ | exact rf_len _ | (simp only [sg_len, cx_len, d_len, de_len, rf_len]) | rfl) ?_))
         | ((refine z_sti 3 rfl rfl ?_; refine o_storeb3 rfl tabOk rfl rfl rfl (by first | exact sg_len _ | exact cx_len _ | exact d_len _ _ _ | exact de_len _ | exact rf_len _ | (simp only [sg_len, cx_len, d_len, de_len, rf_len]) | rfl) (by first | exact sg_one _ | exact cx_one _ | exact d_one _ _ _ | exact de_one _ | exact rf_one _ | rfl) (by first | exact sg_len _ | exact cx_len _ | exact d_len _ _ _ | exact de_len _ | exact rf_len _ | (simp only [sg_len, cx_len, d_len, de_len, rf_len]) | rfl) ?_))
         | ((refine z_sti 4 rfl rfl ?_; refine o_storeb4 rfl tabOk rfl rfl rfl (by first | exact sg_len _ | exact cx_len _ | exact d_len _ _ _ | exact de_len _ | exact rf_len _ | (simp only [sg_len, cx_len, d_len, de_len, rf_len]) | rfl) (by first | exact sg_one _ | exact cx_one _ | exact d_one _ _ _ | exact de_one _ | exact rf_one _ | rfl) (by first | exact sg_len _ | exact cx_len _ | exact d_len _ _ _ | exact de_len _ | exact rf_len _ | (simp only [sg_len, cx_len, d_len, de_len, rf_len]) | rfl) ?_))
         | ((refine z_sti 5 rfl rfl ?_; refine o_storeb5 rfl tabOk rfl rfl rfl (by first | exact sg_len _ | exact cx_len _ | exact d_len _ _ _ | exact de_len _ | exact rf_len _ | (simp only [sg_len, cx_len, d_len, de_len, rf_len]) | rfl) (by first | exact sg_one _ | exact cx_one _ | exact d_one _ _ _ | exact de_one _ | exact rf_one _ | rfl) (by first | exact sg_len _ | exact cx_len _ | exact d_len _ _ _ | exact de_len _ | exact rf_len _ | (simp only [sg_len, cx_len, d_len, de_len, rf_len]) | rfl) ?_))
         | ((refine z_sti 6 rfl rfl ?_; refine o_storeb6 rfl tabOk rfl rfl rfl (by first | exact sg_len _ | exact cx_len _ | exact d_len _ _ _ | exact de_len _ | exact rf_len _ | (simp only [sg_len, cx_len, d_len, de_len, rf_len]) | rfl) (by first | exact sg_one _ | exact cx_one _ | exact d_one _ _ _ | exact de_one _ | exact rf_one _ | rfl) (by first | exact sg_len _ | exact cx_len _ | exact d_len _ _ _ | exact de_len _ | exact rf_len _ | (simp only [sg_len, cx_len, d_len, de_len, rf_len]) | rfl) ?_)))
         | (refine z_st1 rfl rfl ?_; first
         | refine o_store rfl tabOk rfl rfl rfl rfl rfl (by first | exact d_pc _ _ _ | exact de_k _ | exact de_s _ | exact de_a _ | exact d_k _ _ _ | exact d_n _ _ _ | rfl) (by first | rfl) ?_
         | ((refine z_sti 1 rfl rfl ?_; refine o_store1 rfl tabOk rfl rfl rfl rfl rfl (by first | exact d_pc _ _ _ | exact de_k _ | exact de_s _ | exact de_a _ | exact d_k _ _ _ | exact d_n _ _ _ | rfl) (by first | rfl) ?_))
         | ((refine z_sti 2 rfl rfl ?_; refine o_store2 rfl tabOk rfl rfl rfl rfl rfl (by first | exact d_pc _ _ _ | exact de_k _ | exact de_s _ | exact de_a _ | exact d_k _ _ _ | exact d_n _ _ _ | rfl) (by first | rfl) ?_))
         | ((refine z_sti 3 rfl rfl ?_; refine o_store3 rfl tabOk rfl rfl rfl rfl rfl (by first | exact d_pc _ _ _ | exact de_k _ | exact de_s _ | exact de_a _ | exact d_k _ _ _ | exact d_n _ _ _ | rfl) (by first | rfl) ?_))
         | ((refine z_sti 4 rfl rfl ?_; refine o_store4 rfl tabOk rfl rfl rfl rfl rfl (by first | exact d_pc _ _ _ | exact de_k _ | exact de_s _ | exact de_a _ | exact d_k _ _ _ | exact d_n _ _ _ | rfl) (by first | rfl) ?_))
         | ((refine z_sti 5 rfl rfl ?_; refine o_store5 rfl tabOk rfl rfl rfl rfl rfl (by first | exact d_pc _ _ _ | exact de_k _ | exact de_s _ | exact de_a _ | exact d_k _ _ _ | exact d_n _ _ _ | rfl) (by first | rfl) ?_))
         | ((refine z_sti 6 rfl rfl ?_; refine o_store6 rfl tabOk rfl rfl rfl rfl rfl (by first | exact d_pc _ _ _ | exact de_k _ | exact de_s _ | exact de_a _ | exact d_k _ _ _ | exact d_n _ _ _ | rfl) (by first | rfl) ?_))))
         | (refine z_iscall ?_; first
         | ((refine z_iscallf 7 ?_; refine z_isdst 45 ?_; refine o_calla Tryd.func7 rfl rfl rfl (next_v _ _ _ _ _ _ hn1 _ (by repeat (first | exact hT | apply Rds.cons)) hz1) (by decide) fun _ _ => ?_))
         | ((refine z_iscallf 7 ?_; refine o_calla Tryd.func7 rfl rfl rfl (next_v _ _ _ _ _ _ hn2 _ (by repeat (first | exact hT | apply Rds.cons)) hz2) (by decide) fun _ _ => ?_))
         | ((refine z_iscallf 8 ?_; refine o_calla Tryd.func8 rfl rfl rfl (awake_c _ (by repeat (first | exact hT | apply Rds.cons))) (by decide) fun _ _ => ?_))
         | ((refine z_iscallf 9 ?_; refine o_fn rfl Tryd.func9 rfl rfl rfl (raise_fn _ _) (by decide) ?_))
         | ((refine z_iscallf 11 ?_; refine o_fn rfl Tryd.func11 rfl rfl rfl (ret_fn _) (by decide) ?_))
         | ((refine z_iscallf 10 ?_; refine o_fn rfl Tryd.func10 rfl rfl rfl (waits_fn _ _) (by decide) ?_)))
         | (refine z_ispick ?_; first
         | (refine o_pick1 rfl (by first | with_reducible rfl | with_reducible assumption | ((with_reducible refine decide_eq_true ?_); first | with_reducible rfl | with_reducible assumption | omega)) rfl (by decide) ?_)
         | (refine o_pick0 rfl (by first | with_reducible rfl | with_reducible assumption | ((with_reducible refine decide_eq_false ?_); first | with_reducible assumption | omega)) rfl (by decide) ?_)
         | (refine o_pick1 rfl (by first | (simp only [Bool.not_eq_true', decide_eq_false_iff_not]; omega) | (with_reducible assumption) | (rw [decide_eq_false] <;> (first | omega | with_reducible rfl)) | (rw [decide_eq_true] <;> (first | omega | with_reducible rfl)) | (simp; done) | (simp; omega)) rfl (by decide) ?_)
         | (refine o_pick0 rfl (by first | (simp only [Bool.not_eq_false', decide_eq_true_eq]; omega) | (with_reducible assumption) | (rw [decide_eq_false] <;> (first | omega | with_reducible rfl)) | (rw [decide_eq_true] <;> (first | omega | with_reducible rfl)) | (simp; done) | (simp; omega)) rfl (by decide) ?_))
         | (refine z_isix ?_; first
         | refine o_index0 tabOk rfl rfl rfl rfl (by omega) (by omega) (by decide) ?_
         | refine o_index1 tabOk rfl rfl rfl rfl (by omega) (by omega) (by decide) ?_
         | refine o_indexsk tabOk rfl rfl rfl rfl (by omega) (by omega) (by decide) ?_
         | refine o_indexs1 tabOk (by first | assumption) rfl rfl rfl rfl (by omega) (by omega) (by decide) ?_)
         | (refine z_isbi ?_; first
         | refine o_len tabOk rfl rfl (by decide) ?_
         | refine o_min rfl rfl (by decide) ?_
         | refine o_max rfl rfl (by decide) ?_)
         | refine o_move rfl (by decide) ?_
         | refine o_assign rfl (by decide) ?_
         | refine o_nil rfl (by decide) ?_
         | refine o_extract rfl rfl (by decide) ?_
         | refine o_not rfl (by decide) ?_
         | refine o_field0 tabOk rfl rfl rfl rfl rfl (by decide) ?_
         | refine o_field tabOk rfl rfl rfl rfl rfl (by decide) ?_
         | refine o_conv tabOk rfl rfl rfl (by decide) ?_))
      · have e2 : decide ((if (1 : Int) ≤ t ∧ t ≤ 8 then (0 : Int) else 1) = 0) = false := by rw [if_neg ht]; rfl
        repeat' (first
         | (refine s_is ?_; first
         | (refine s_isret ?_; first
         | exact f_r1 rfl (res_t rfl) () trivial (by first | rfl | simp only [hbb]) (fun w h => ((h.sel 9 [8, 0, 1, 2, 3, 4, 5, 6, 7] (by decide)).mask [true, false, false, false, false, false, false, false, false])))
         | (refine s_isw ?_; first
         | refine c_seq ?_
         | refine c_block ?_
         | refine c_region ?_
         | refine c_mixed mixed (by kernel_rfl) ?_
         | refine c_skip ?_
         | refine c_ret ?_
         | refine c_exit ?_
         | (refine s_iscond ?_; first
         | (refine c_true rfl (by first | with_reducible rfl | with_reducible assumption | ((with_reducible refine decide_eq_true ?_); first | with_reducible rfl | with_reducible assumption | omega)) ?_)
         | (refine c_false rfl (by first | with_reducible rfl | with_reducible assumption | ((with_reducible refine decide_eq_false ?_); first | with_reducible assumption | omega)) ?_)
         | (refine c_true rfl (by first | (simp only [Bool.not_eq_true', decide_eq_false_iff_not]; omega) | (with_reducible assumption) | (rw [decide_eq_false] <;> (first | omega | with_reducible rfl)) | (rw [decide_eq_true] <;> (first | omega | with_reducible rfl)) | (simp; done) | (simp; omega)) ?_)
         | (refine c_false rfl (by first | (simp only [Bool.not_eq_false', decide_eq_true_eq]; omega) | (with_reducible assumption) | (rw [decide_eq_false] <;> (first | omega | with_reducible rfl)) | (rw [decide_eq_true] <;> (first | omega | with_reducible rfl)) | (simp; done) | (simp; omega)) ?_)
         | refine c_cond rfl (fun hc => ?_) (fun hc => ?_)
         | refine c_condb rfl (fun hc => ?_) (fun hc => ?_)))
         | refine x_then ?_
         | refine x_then_ret ?_
         | refine x_then_exit ?_
         | refine x_block _ ?_
         | refine x_block_ret _ ?_
         | refine x_block_exit _ ?_
         | refine x_block_past (by decide) ?_
         | refine z_tailm ?_)
         | (refine z_isg1 ?_; first
         | refine z_skipu (by decide) rfl rfl ?_
         | (refine z_want1 rfl rfl (by first | with_reducible rfl | with_reducible assumption | ((with_reducible refine decide_eq_true ?_); first | with_reducible rfl | with_reducible assumption | omega)) ?_)
         | (refine z_skip1 (by decide) rfl rfl (by first | with_reducible rfl | with_reducible assumption | ((with_reducible refine decide_eq_false ?_); first | with_reducible assumption | omega)) ?_)
         | (refine z_want1 rfl rfl (by first | (simp only [Bool.not_eq_true', decide_eq_false_iff_not]; omega) | (with_reducible assumption) | (rw [decide_eq_false] <;> (first | omega | with_reducible rfl)) | (rw [decide_eq_true] <;> (first | omega | with_reducible rfl)) | (simp; done) | (simp; omega)) ?_)
         | (refine z_skip1 (by decide) rfl rfl (by first | (simp only [Bool.not_eq_false', decide_eq_true_eq]; omega) | (with_reducible assumption) | (rw [decide_eq_false] <;> (first | omega | with_reducible rfl)) | (rw [decide_eq_true] <;> (first | omega | with_reducible rfl)) | (simp; done) | (simp; omega)) ?_)
         | refine z_guard1 (by decide) rfl rfl (fun hc => ?_) (fun hc => ?_)
         | refine z_guardb (by decide) rfl rfl (fun hc => ?_) (fun hc => ?_))
         | (refine z_isg0 ?_; first
         | refine z_skipu (by decide) rfl rfl ?_
         | (refine z_want0 rfl rfl (by first | with_reducible rfl | with_reducible assumption | ((with_reducible refine decide_eq_false ?_); first | with_reducible assumption | omega)) ?_)
         | (refine z_skip0 (by decide) rfl rfl (by first | with_reducible rfl | with_reducible assumption | ((with_reducible refine decide_eq_true ?_); first | with_reducible rfl | with_reducible assumption | omega)) ?_)
         | (refine z_want0 rfl rfl (by first | (simp only [Bool.not_eq_false', decide_eq_true_eq]; omega) | (with_reducible assumption) | (rw [decide_eq_false] <;> (first | omega | with_reducible rfl)) | (rw [decide_eq_true] <;> (first | omega | with_reducible rfl)) | (simp; done) | (simp; omega)) ?_)
         | (refine z_skip0 (by decide) rfl rfl (by first | (simp only [Bool.not_eq_true', decide_eq_false_iff_not]; omega) | (with_reducible assumption) | (rw [decide_eq_false] <;> (first | omega | with_reducible rfl)) | (rw [decide_eq_true] <;> (first | omega | with_reducible rfl)) | (simp; done) | (simp; omega)) ?_)
         | refine z_guard0 (by decide) rfl rfl (fun hc => ?_) (fun hc => ?_)
         | refine z_guardb (by decide) rfl rfl (fun hc => ?_) (fun hc => ?_))
         | (refine z_isnil ?_; first
         | refine z_keep1 ?_
         | refine z_keep2 ?_
         | refine z_list ?_
         | refine z_mixed ?_
         | refine z_mono0 ?_
         | refine z_mono1 (by decide) fun g => ?_
         | refine z_mono2 (by decide) (by decide) fun g g' => ?_
         | refine z_mixedx ?_
         | refine z_quiet ?_)
         | (refine z_isop ?_; first
         | refine o_boxa rfl rfl (by decide) fun g => ?_
         | refine o_alloca (e := 30) (vs := Sg.zero.cs) rfl (by kernel_rfl) (by decide) fun g => ?_
         | refine o_alloca (e := 26) (vs := Cx.zero.cs) rfl (by kernel_rfl) (by decide) fun g => ?_
         | refine o_alloca (e := 40) (vs := dCs 0 0 Cx.zero) rfl (by kernel_rfl) (by decide) fun g => ?_
         | refine o_buildf (t := 40) (zs := dCs 0 0 Cx.zero) tabOk rfl rfl (by kernel_rfl) rfl (d_fill _ _ _) (by decide) ?_
         | refine o_build (t := 26) (v := .agg Cx.zero.cs.toArray) rfl (fun _ => by kernel_rfl) (by decide) ?_
         | (refine z_isbin ?_; first
         | refine o_eqa cmp40 rfl rfl (d_typed _ _ _) (d_typed _ _ _) (by decide) ?_
         | refine o_eqa cmp26 rfl rfl (cx_typed _) (cx_typed _) (by decide) ?_
         | refine o_nea cmp26 rfl rfl (cx_typed _) (cx_typed _) (by decide) ?_
         | (refine z_isb .add ?_; first
         | refine o_add rfl rfl (by omega) (by omega) (by decide) ?_
         | refine o_addw rfl rfl (by decide) ?_)
         | (refine z_isb .eql ?_; first
         | refine o_eq rfl rfl (by decide) ?_
         | refine o_beq tabOk rfl rfl rfl (by decide) ?_
         | refine o_peq tabOk rfl rfl (by decide) ?_)
         | (refine z_isb .neq ?_; first
         | refine o_ne rfl rfl (by decide) ?_
         | refine o_bne tabOk rfl rfl rfl (by decide) ?_
         | refine o_pne tabOk rfl rfl (by decide) ?_)
         | (refine z_isb .lss ?_; first
         | refine o_lt rfl rfl (by decide) ?_))
         | (refine z_isload ?_; first
         | refine o_loadp tabOk rfl rfl rfl 1 rfl (cx_len _) (de_c _) (by decide) ?_
         | refine o_loadp tabOk rfl rfl rfl 3 rfl (cx_len _) (de_c _) (by decide) ?_
         | refine o_loadp tabOk rfl rfl rfl 0 rfl (cx_len _) (d_c _ _ _) (by decide) ?_
         | refine o_loadp tabOk rfl rfl rfl 1 rfl (cx_len _) (d_c _ _ _) (by decide) ?_
         | refine o_loadp tabOk rfl rfl rfl 2 rfl (cx_len _) (d_c _ _ _) (by decide) ?_
         | (refine z_ld1 tabOk rfl rfl ?_; first
         | refine o_loadm tabOk rfl rfl rfl (by repeat' (first | exact List.mem_cons_self | apply List.mem_cons_of_mem)) (by first | exact d_pc _ _ _ | exact de_k _ | exact de_s _ | exact de_a _ | exact d_k _ _ _ | exact d_n _ _ _ | rfl) (by decide) ?_
         | refine o_loads tabOk (by first | assumption | exact Rds.cons _ (by assumption) | exact Rds.cons _ (Rds.cons _ (by assumption)) | exact own_rds 0 rfl | exact own_rds 1 rfl | exact own_rds 2 rfl) rfl rfl rfl (by first | exact d_pc _ _ _ | exact de_k _ | exact de_s _ | exact de_a _ | exact d_k _ _ _ | exact d_n _ _ _ | rfl) (by decide) ?_)
         | (refine z_ldw tabOk rfl rfl ?_; first
         | refine o_loadwm tabOk rfl rfl rfl (by repeat' (first | exact List.mem_cons_self | apply List.mem_cons_of_mem)) (by first | exact sg_len _ | exact cx_len _ | exact d_len _ _ _ | exact de_len _ | exact rf_len _ | (simp only [sg_len, cx_len, d_len, de_len, rf_len]) | rfl) (by decide) ?_))
         | (refine z_isstore ?_; first
         | refine o_storebk 0 tabOk rfl rfl rfl rfl (by first | exact sg_len _ | exact cx_len _ | exact d_len _ _ _ | exact de_len _ | exact rf_len _ | (simp only [sg_len, cx_len, d_len, de_len, rf_len]) | rfl) (by first | exact sg_one _ | exact cx_one _ | exact d_one _ _ _ | exact de_one _ | exact rf_one _ | rfl) (by first | exact sg_len _ | exact cx_len _ | exact d_len _ _ _ | exact de_len _ | exact rf_len _ | (simp only [sg_len, cx_len, d_len, de_len, rf_len]) | rfl) ?_
         | refine o_storebk 1 tabOk rfl rfl rfl rfl (by first | exact sg_len _ | exact cx_len _ | exact d_len _ _ _ | exact de_len _ | exact rf_len _ | (simp only [sg_len, cx_len, d_len, de_len, rf_len]) | rfl) (by first | exact sg_one _ | exact cx_one _ | exact d_one _ _ _ | exact de_one _ | exact rf_one _ | rfl) (by first | exact sg_len _ | exact cx_len _ | exact d_len _ _ _ | exact de_len _ | exact rf_len _ | (simp only [sg_len, cx_len, d_len, de_len, rf_len]) | rfl) ?_
         | (refine z_stw rfl ?_; first
         | ((refine z_sti 0 rfl rfl ?_; refine o_storeb0 rfl tabOk rfl rfl rfl (by first | exact sg_len _ | exact cx_len _ | exact d_len _ _ _ | exact de_len _ | exact rf_len _ | (simp only [sg_len, cx_len, d_len, de_len, rf_len]) | rfl) (by first | exact sg_one _ | exact cx_one _ | exact d_one _ _ _ | exact de_one _ | exact rf_one _ | rfl) (by first | exact sg_len _ | exact cx_len _ | exact d_len _ _ _ | exact de_len _ | exact rf_len _ | (simp only [sg_len, cx_len, d_len, de_len, rf_len]) | rfl) ?_))
         | ((refine z_sti 1 rfl rfl ?_; refine o_storeb1 rfl tabOk rfl rfl rfl (by first | exact sg_len _ | exact cx_len _ | exact d_len _ _ _ | exact de_len _ | exact rf_len _ | (simp only [sg_len, cx_len, d_len, de_len, rf_len]) | rfl) (by first | exact sg_one _ | exact cx_one _ | exact d_one _ _ _ | exact de_one _ | exact rf_one _ | rfl) (by first | exact sg_len _ | exact cx_len _ | exact d_len _ _ _ | exact de_len _ | exact rf_len _ | (simp only [sg_len, cx_len, d_len, de_len, rf_len]) | rfl) ?_))
         | ((refine z_sti 2 rfl rfl ?_; refine o_storeb2 rfl tabOk rfl rfl rfl (by first | exact sg_len _ | exact cx_len _ | exact d_len _ _ _ | exact de_len _ | exact rf_len _ | (simp only [sg_len, cx_len, d_len, de_len, rf_len]) | rfl) (by first | exact sg_one _ | exact cx_one _ | exact d_one _ _ _ | exact de_one _ | exact rf_one _ | rfl) (by first | exact sg_len _ | exact cx_len _ | exact d_len _ _ _ | exact de_len _ | exact rf_len _ | (simp only [sg_len, cx_len, d_len, de_len, rf_len]) | rfl) ?_))
         | ((refine z_sti 3 rfl rfl ?_; refine o_storeb3 rfl tabOk rfl rfl rfl (by first | exact sg_len _ | exact cx_len _ | exact d_len _ _ _ | exact de_len _ | exact rf_len _ | (simp only [sg_len, cx_len, d_len, de_len, rf_len]) | rfl) (by first | exact sg_one _ | exact cx_one _ | exact d_one _ _ _ | exact de_one _ | exact rf_one _ | rfl) (by first | exact sg_len _ | exact cx_len _ | exact d_len _ _ _ | exact de_len _ | exact rf_len _ | (simp only [sg_len, cx_len, d_len, de_len, rf_len]) | rfl) ?_))
         | ((refine z_sti 4 rfl rfl ?_; refine o_storeb4 rfl tabOk rfl rfl rfl (by first | exact sg_len _ | exact cx_len _ | exact d_len _ _ _ | exact de_len _ | exact rf_len _ | (simp only [sg_len, cx_len, d_len, de_len, rf_len]) | rfl) (by first | exact sg_one _ | exact cx_one _ | exact d_one _ _ _ | exact de_one _ | exact rf_one _ | rfl) (by first | exact sg_len _ | exact cx_len _ | exact d_len _ _ _ | exact de_len _ | exact rf_len _ | (simp only [sg_len, cx_len, d_len, de_len, rf_len]) | rfl) ?_))
         | ((refine z_sti 5 rfl rfl ?_; refine o_storeb5 rfl tabOk rfl rfl rfl (by first | exact sg_len _ | exact cx_len _ | exact d_len _ _ _ | exact de_len _ | exact rf_len _ | (simp only [sg_len, cx_len, d_len, de_len, rf_len]) | rfl) (by first | exact sg_one _ | exact cx_one _ | exact d_one _ _ _ | exact de_one _ | exact rf_one _ | rfl) (by first | exact sg_len _ | exact cx_len _ | exact d_len _ _ _ | exact de_len _ | exact rf_len _ | (simp only [sg_len, cx_len, d_len, de_len, rf_len]) | rfl) ?_))
         | ((refine z_sti 6 rfl rfl ?_; refine o_storeb6 rfl tabOk rfl rfl rfl (by first | exact sg_len _ | exact cx_len _ | exact d_len _ _ _ | exact de_len _ | exact rf_len _ | (simp only [sg_len, cx_len, d_len, de_len, rf_len]) | rfl) (by first | exact sg_one _ | exact cx_one _ | exact d_one _ _ _ | exact de_one _ | exact rf_one _ | rfl) (by first | exact sg_len _ | exact cx_len _ | exact d_len _ _ _ | exact de_len _ | exact rf_len _ | (simp only [sg_len, cx_len, d_len, de_len, rf_len]) | rfl) ?_)))
         | (refine z_st1 rfl rfl ?_; first
         | refine o_store rfl tabOk rfl rfl rfl rfl rfl (by first | exact d_pc _ _ _ | exact de_k _ | exact de_s _ | exact de_a _ | exact d_k _ _ _ | exact d_n _ _ _ | rfl) (by first | rfl) ?_
         | ((refine z_sti 1 rfl rfl ?_; refine o_store1 rfl tabOk rfl rfl rfl rfl rfl (by first | exact d_pc _ _ _ | exact de_k _ | exact de_s _ | exact de_a _ | exact d_k _ _ _ | exact d_n _ _ _ | rfl) (by first | rfl) ?_))
         | ((refine z_sti 2 rfl rfl ?_; refine o_store2 rfl tabOk rfl rfl rfl rfl rfl (by first | exact d_pc _ _ _ | exact de_k _ | exact de_s _ | exact de_a _ | exact d_k _ _ _ | exact d_n _ _ _ | rfl) (by first | rfl) ?_))
         | ((refine z_sti 3 rfl rfl ?_; refine o_store3 rfl tabOk rfl rfl rfl rfl rfl (by first | exact d_pc _ _ _ | exact de_k _ | exact de_s _ | exact de_a _ | exact d_k _ _ _ | exact d_n _ _ _ | rfl) (by first | rfl) ?_))
         | ((refine z_sti 4 rfl rfl ?_; refine o_store4 rfl tabOk rfl rfl rfl rfl rfl (by first | exact d_pc _ _ _ | exact de_k _ | exact de_s _ | exact de_a _ | exact d_k _ _ _ | exact d_n _ _ _ | rfl) (by first | rfl) ?_))
         | ((refine z_sti 5 rfl rfl ?_; refine o_store5 rfl tabOk rfl rfl rfl rfl rfl (by first | exact d_pc _ _ _ | exact de_k _ | exact de_s _ | exact de_a _ | exact d_k _ _ _ | exact d_n _ _ _ | rfl) (by first | rfl) ?_))
         | ((refine z_sti 6 rfl rfl ?_; refine o_store6 rfl tabOk rfl rfl rfl rfl rfl (by first | exact d_pc _ _ _ | exact de_k _ | exact de_s _ | exact de_a _ | exact d_k _ _ _ | exact d_n _ _ _ | rfl) (by first | rfl) ?_))))
         | (refine z_iscall ?_; first
         | ((refine z_iscallf 7 ?_; refine z_isdst 45 ?_; refine o_calla Tryd.func7 rfl rfl rfl (next_v _ _ _ _ _ _ hn1 _ (by repeat (first | exact hT | apply Rds.cons)) hz1) (by decide) fun _ _ => ?_))
         | ((refine z_iscallf 7 ?_; refine o_calla Tryd.func7 rfl rfl rfl (next_v _ _ _ _ _ _ hn2 _ (by repeat (first | exact hT | apply Rds.cons)) hz2) (by decide) fun _ _ => ?_))
         | ((refine z_iscallf 8 ?_; refine o_calla Tryd.func8 rfl rfl rfl (awake_c _ (by repeat (first | exact hT | apply Rds.cons))) (by decide) fun _ _ => ?_))
         | ((refine z_iscallf 9 ?_; refine o_fn rfl Tryd.func9 rfl rfl rfl (raise_fn _ _) (by decide) ?_))
         | ((refine z_iscallf 11 ?_; refine o_fn rfl Tryd.func11 rfl rfl rfl (ret_fn _) (by decide) ?_))
         | ((refine z_iscallf 10 ?_; refine o_fn rfl Tryd.func10 rfl rfl rfl (waits_fn _ _) (by decide) ?_)))
         | (refine z_ispick ?_; first
         | (refine o_pick1 rfl (by first | with_reducible rfl | with_reducible assumption | ((with_reducible refine decide_eq_true ?_); first | with_reducible rfl | with_reducible assumption | omega)) rfl (by decide) ?_)
         | (refine o_pick0 rfl (by first | with_reducible rfl | with_reducible assumption | ((with_reducible refine decide_eq_false ?_); first | with_reducible assumption | omega)) rfl (by decide) ?_)
         | (refine o_pick1 rfl (by first | (simp only [Bool.not_eq_true', decide_eq_false_iff_not]; omega) | (with_reducible assumption) | (rw [decide_eq_false] <;> (first | omega | with_reducible rfl)) | (rw [decide_eq_true] <;> (first | omega | with_reducible rfl)) | (simp; done) | (simp; omega)) rfl (by decide) ?_)
         | (refine o_pick0 rfl (by first | (simp only [Bool.not_eq_false', decide_eq_true_eq]; omega) | (with_reducible assumption) | (rw [decide_eq_false] <;> (first | omega | with_reducible rfl)) | (rw [decide_eq_true] <;> (first | omega | with_reducible rfl)) | (simp; done) | (simp; omega)) rfl (by decide) ?_))
         | (refine z_isix ?_; first
         | refine o_index0 tabOk rfl rfl rfl rfl (by omega) (by omega) (by decide) ?_
         | refine o_index1 tabOk rfl rfl rfl rfl (by omega) (by omega) (by decide) ?_
         | refine o_indexsk tabOk rfl rfl rfl rfl (by omega) (by omega) (by decide) ?_
         | refine o_indexs1 tabOk (by first | assumption) rfl rfl rfl rfl (by omega) (by omega) (by decide) ?_)
         | (refine z_isbi ?_; first
         | refine o_len tabOk rfl rfl (by decide) ?_
         | refine o_min rfl rfl (by decide) ?_
         | refine o_max rfl rfl (by decide) ?_)
         | refine o_move rfl (by decide) ?_
         | refine o_assign rfl (by decide) ?_
         | refine o_nil rfl (by decide) ?_
         | refine o_extract rfl rfl (by decide) ?_
         | refine o_not rfl (by decide) ?_
         | refine o_field0 tabOk rfl rfl rfl rfl rfl (by decide) ?_
         | refine o_field tabOk rfl rfl rfl rfl rfl (by decide) ?_
         | refine o_conv tabOk rfl rfl rfl (by decide) ?_))
  · have hp := next_plain s c hk
    have hn1 := tri (s.next c)
    rw [hp] at hn1
    have e1 : decide ((s.next c).2.1 ≠ 2) = true := by simp [hk]
    generalize (s.next c).1 = s1 at *
    generalize (s.next c).2.1 = k1 at *
    generalize (s.next c).2.2.1 = m1 at *
    repeat' (first
     | (refine s_is ?_; first
     | (refine s_isret ?_; first
     | exact f_r1 rfl (res_t rfl) () trivial (by first | rfl | simp only [ec]) (fun w h => ((h.sel 6 [5, 0, 1, 2, 3, 4] (by decide)).mask [true, false, false, false, false, false])))
     | (refine s_isw ?_; first
     | refine c_seq ?_
     | refine c_block ?_
     | refine c_region ?_
     | refine c_mixed mixed (by kernel_rfl) ?_
     | refine c_skip ?_
     | refine c_ret ?_
     | refine c_exit ?_
     | (refine s_iscond ?_; first
     | (refine c_true rfl (by first | with_reducible rfl | with_reducible assumption | ((with_reducible refine decide_eq_true ?_); first | with_reducible rfl | with_reducible assumption | omega)) ?_)
     | (refine c_false rfl (by first | with_reducible rfl | with_reducible assumption | ((with_reducible refine decide_eq_false ?_); first | with_reducible assumption | omega)) ?_)
     | (refine c_true rfl (by first | (simp only [Bool.not_eq_true', decide_eq_false_iff_not]; omega) | (with_reducible assumption) | (rw [decide_eq_false] <;> (first | omega | with_reducible rfl)) | (rw [decide_eq_true] <;> (first | omega | with_reducible rfl)) | (simp; done) | (simp; omega)) ?_)
     | (refine c_false rfl (by first | (simp only [Bool.not_eq_false', decide_eq_true_eq]; omega) | (with_reducible assumption) | (rw [decide_eq_false] <;> (first | omega | with_reducible rfl)) | (rw [decide_eq_true] <;> (first | omega | with_reducible rfl)) | (simp; done) | (simp; omega)) ?_)
     | refine c_cond rfl (fun hc => ?_) (fun hc => ?_)
     | refine c_condb rfl (fun hc => ?_) (fun hc => ?_)))
     | refine x_then ?_
     | refine x_then_ret ?_
     | refine x_then_exit ?_
     | refine x_block _ ?_
     | refine x_block_ret _ ?_
     | refine x_block_exit _ ?_
     | refine x_block_past (by decide) ?_
     | refine z_tailm ?_)
     | (refine z_isg1 ?_; first
     | refine z_skipu (by decide) rfl rfl ?_
     | (refine z_want1 rfl rfl (by first | with_reducible rfl | with_reducible assumption | ((with_reducible refine decide_eq_true ?_); first | with_reducible rfl | with_reducible assumption | omega)) ?_)
     | (refine z_skip1 (by decide) rfl rfl (by first | with_reducible rfl | with_reducible assumption | ((with_reducible refine decide_eq_false ?_); first | with_reducible assumption | omega)) ?_)
     | (refine z_want1 rfl rfl (by first | (simp only [Bool.not_eq_true', decide_eq_false_iff_not]; omega) | (with_reducible assumption) | (rw [decide_eq_false] <;> (first | omega | with_reducible rfl)) | (rw [decide_eq_true] <;> (first | omega | with_reducible rfl)) | (simp; done) | (simp; omega)) ?_)
     | (refine z_skip1 (by decide) rfl rfl (by first | (simp only [Bool.not_eq_false', decide_eq_true_eq]; omega) | (with_reducible assumption) | (rw [decide_eq_false] <;> (first | omega | with_reducible rfl)) | (rw [decide_eq_true] <;> (first | omega | with_reducible rfl)) | (simp; done) | (simp; omega)) ?_)
     | refine z_guard1 (by decide) rfl rfl (fun hc => ?_) (fun hc => ?_)
     | refine z_guardb (by decide) rfl rfl (fun hc => ?_) (fun hc => ?_))
     | (refine z_isg0 ?_; first
     | refine z_skipu (by decide) rfl rfl ?_
     | (refine z_want0 rfl rfl (by first | with_reducible rfl | with_reducible assumption | ((with_reducible refine decide_eq_false ?_); first | with_reducible assumption | omega)) ?_)
     | (refine z_skip0 (by decide) rfl rfl (by first | with_reducible rfl | with_reducible assumption | ((with_reducible refine decide_eq_true ?_); first | with_reducible rfl | with_reducible assumption | omega)) ?_)
     | (refine z_want0 rfl rfl (by first | (simp only [Bool.not_eq_false', decide_eq_true_eq]; omega) | (with_reducible assumption) | (rw [decide_eq_false] <;> (first | omega | with_reducible rfl)) | (rw [decide_eq_true] <;> (first | omega | with_reducible rfl)) | (simp; done) | (simp; omega)) ?_)
     | (refine z_skip0 (by decide) rfl rfl (by first | (simp only [Bool.not_eq_true', decide_eq_false_iff_not]; omega) | (with_reducible assumption) | (rw [decide_eq_false] <;> (first | omega | with_reducible rfl)) | (rw [decide_eq_true] <;> (first | omega | with_reducible rfl)) | (simp; done) | (simp; omega)) ?_)
     | refine z_guard0 (by decide) rfl rfl (fun hc => ?_) (fun hc => ?_)
     | refine z_guardb (by decide) rfl rfl (fun hc => ?_) (fun hc => ?_))
     | (refine z_isnil ?_; first
     | refine z_keep1 ?_
     | refine z_keep2 ?_
     | refine z_list ?_
     | refine z_mixed ?_
     | refine z_mono0 ?_
     | refine z_mono1 (by decide) fun g => ?_
     | refine z_mono2 (by decide) (by decide) fun g g' => ?_
     | refine z_mixedx ?_
     | refine z_quiet ?_)
     | (refine z_isop ?_; first
     | refine o_boxa rfl rfl (by decide) fun g => ?_
     | refine o_alloca (e := 30) (vs := Sg.zero.cs) rfl (by kernel_rfl) (by decide) fun g => ?_
     | refine o_alloca (e := 26) (vs := Cx.zero.cs) rfl (by kernel_rfl) (by decide) fun g => ?_
     | refine o_alloca (e := 40) (vs := dCs 0 0 Cx.zero) rfl (by kernel_rfl) (by decide) fun g => ?_
     | refine o_buildf (t := 40) (zs := dCs 0 0 Cx.zero) tabOk rfl rfl (by kernel_rfl) rfl (d_fill _ _ _) (by decide) ?_
     | refine o_build (t := 26) (v := .agg Cx.zero.cs.toArray) rfl (fun _ => by kernel_rfl) (by decide) ?_
     | (refine z_isbin ?_; first
     | refine o_eqa cmp40 rfl rfl (d_typed _ _ _) (d_typed _ _ _) (by decide) ?_
     | refine o_eqa cmp26 rfl rfl (cx_typed _) (cx_typed _) (by decide) ?_
     | refine o_nea cmp26 rfl rfl (cx_typed _) (cx_typed _) (by decide) ?_
     | (refine z_isb .add ?_; first
     | refine o_add rfl rfl (by omega) (by omega) (by decide) ?_
     | refine o_addw rfl rfl (by decide) ?_)
     | (refine z_isb .eql ?_; first
     | refine o_eq rfl rfl (by decide) ?_
     | refine o_beq tabOk rfl rfl rfl (by decide) ?_
     | refine o_peq tabOk rfl rfl (by decide) ?_)
     | (refine z_isb .neq ?_; first
     | refine o_ne rfl rfl (by decide) ?_
     | refine o_bne tabOk rfl rfl rfl (by decide) ?_
     | refine o_pne tabOk rfl rfl (by decide) ?_)
     | (refine z_isb .lss ?_; first
     | refine o_lt rfl rfl (by decide) ?_))
     | (refine z_isload ?_; first
     | refine o_loadp tabOk rfl rfl rfl 1 rfl (cx_len _) (de_c _) (by decide) ?_
     | refine o_loadp tabOk rfl rfl rfl 3 rfl (cx_len _) (de_c _) (by decide) ?_
     | refine o_loadp tabOk rfl rfl rfl 0 rfl (cx_len _) (d_c _ _ _) (by decide) ?_
     | refine o_loadp tabOk rfl rfl rfl 1 rfl (cx_len _) (d_c _ _ _) (by decide) ?_
     | refine o_loadp tabOk rfl rfl rfl 2 rfl (cx_len _) (d_c _ _ _) (by decide) ?_
     | (refine z_ld1 tabOk rfl rfl ?_; first
     | refine o_loadm tabOk rfl rfl rfl (by repeat' (first | exact List.mem_cons_self | apply List.mem_cons_of_mem)) (by first | exact d_pc _ _ _ | exact de_k _ | exact de_s _ | exact de_a _ | exact d_k _ _ _ | exact d_n _ _ _ | rfl) (by decide) ?_
     | refine o_loads tabOk (by first | assumption | exact Rds.cons _ (by assumption) | exact Rds.cons _ (Rds.cons _ (by assumption)) | exact own_rds 0 rfl | exact own_rds 1 rfl | exact own_rds 2 rfl) rfl rfl rfl (by first | exact d_pc _ _ _ | exact de_k _ | exact de_s _ | exact de_a _ | exact d_k _ _ _ | exact d_n _ _ _ | rfl) (by decide) ?_)
     | (refine z_ldw tabOk rfl rfl ?_; first
     | refine o_loadwm tabOk rfl rfl rfl (by repeat' (first | exact List.mem_cons_self | apply List.mem_cons_of_mem)) (by first | exact sg_len _ | exact cx_len _ | exact d_len _ _ _ | exact de_len _ | exact rf_len _ | (simp only [sg_len, cx_len, d_len, de_len, rf_len]) | rfl) (by decide) ?_))
     | (refine z_isstore ?_; first
     | refine o_storebk 0 tabOk rfl rfl rfl rfl (by first | exact sg_len _ | exact cx_len _ | exact d_len _ _ _ | exact de_len _ | exact rf_len _ | (simp only [sg_len, cx_len, d_len, de_len, rf_len]) | rfl) (by first | exact sg_one _ | exact cx_one _ | exact d_one _ _ _ | exact de_one _ | exact rf_one _ | rfl) (by first | exact sg_len _ | exact cx_len _ | exact d_len _ _ _ | exact de_len _ | exact rf_len _ | (simp only [sg_len, cx_len, d_len, de_len, rf_len]) | rfl) ?_
     | refine o_storebk 1 tabOk rfl rfl rfl rfl (by first | exact sg_len _ | exact cx_len _ | exact d_len _ _ _ | exact de_len _ | exact rf_len _ | (simp only [sg_len, cx_len, d_len, de_len, rf_len]) | rfl) (by first | exact sg_one _ | exact cx_one _ | exact d_one _ _ _ | exact de_one _ | exact rf_one _ | rfl) (by first | exact sg_len _ | exact cx_len _ | exact d_len _ _ _ | exact de_len _ | exact rf_len _ | (simp only [sg_len, cx_len, d_len, de_len, rf_len]) | rfl) ?_
     | (refine z_stw rfl ?_; first
     | ((refine z_sti 0 rfl rfl ?_; refine o_storeb0 rfl tabOk rfl rfl rfl (by first | exact sg_len _ | exact cx_len _ | exact d_len _ _ _ | exact de_len _ | exact rf_len _ | (simp only [sg_len, cx_len, d_len, de_len, rf_len]) | rfl) (by first | exact sg_one _ | exact cx_one _ | exact d_one _ _ _ | exact de_one _ | exact rf_one _ | rfl) (by first | exact sg_len _ | exact cx_len _ | exact d_len _ _ _ | exact de_len _ | exact rf_len _ | (simp only [sg_len, cx_len, d_len, de_len, rf_len]) | rfl) ?_))
     | ((refine z_sti 1 rfl rfl ?_; refine o_storeb1 rfl tabOk rfl rfl rfl (by first | exact sg_len _ | exact cx_len _ | exact d_len _ _ _ | exact de_len _ | exact rf_len _ | (simp only [sg_len, cx_len, d_len, de_len, rf_len]) | rfl) (by first | exact sg_one _ | exact cx_one _ | exact d_one _ _ _ | exact de_one _ | exact rf_one _ | rfl) (by first | exact sg_len _ | exact cx_len _ | exact d_len _ _ _ | exact de_len _ | exact rf_len _ | (simp only [sg_len, cx_len, d_len, de_len, rf_len]) | rfl) ?_))
     | ((refine z_sti 2 rfl rfl ?_; refine o_storeb2 rfl tabOk rfl rfl rfl (by first | exact sg_len _ | exact cx_len _ | exact d_len _ _ _ | exact de_len _ | exact rf_len _ | (simp only [sg_len, cx_len, d_len, de_len, rf_len]) | rfl) (by first | exact sg_one _ | exact cx_one _ | exact d_one _ _ _ | exact de_one _ | exact rf_one _ | rfl) (by first | exact sg_len _ | exact cx_len _ | exact d_len _ _ _ | exact de_len _ | exact rf_len _ | (simp only [sg_len, cx_len, d_len, de_len, rf_len]) | rfl) ?_))
     | ((refine z_sti 3 rfl rfl ?_; refine o_storeb3 rfl tabOk rfl rfl rfl (by first | exact sg_len _ | exact cx_len _ | exact d_len _ _ _ | exact de_len _ | exact rf_len _ | (simp only [sg_len, cx_len, d_len, de_len, rf_len]) | rfl) (by first | exact sg_one _ | exact cx_one _ | exact d_one _ _ _ | exact de_one _ | exact rf_one _ | rfl) (by first | exact sg_len _ | exact cx_len _ | exact d_len _ _ _ | exact de_len _ | exact rf_len _ | (simp only [sg_len, cx_len, d_len, de_len, rf_len]) | rfl) ?_))
     | ((refine z_sti 4 rfl rfl ?_; refine o_storeb4 rfl tabOk rfl rfl rfl (by first | exact sg_len _ | exact cx_len _ | exact d_len _ _ _ | exact de_len _ | exact rf_len _ | (simp only [sg_len, cx_len, d_len, de_len, rf_len]) | rfl) (by first | exact sg_one _ | exact cx_one _ | exact d_one _ _ _ | exact de_one _ | exact rf_one _ | rfl) (by first | exact sg_len _ | exact cx_len _ | exact d_len _ _ _ | exact de_len _ | exact rf_len _ | (simp only [sg_len, cx_len, d_len, de_len, rf_len]) | rfl) ?_))
     | ((refine z_sti 5 rfl rfl ?_; refine o_storeb5 rfl tabOk rfl rfl rfl (by first | exact sg_len _ | exact cx_len _ | exact d_len _ _ _ | exact de_len _ | exact rf_len _ | (simp only [sg_len, cx_len, d_len, de_len, rf_len]) | rfl) (by first | exact sg_one _ | exact cx_one _ | exact d_one _ _ _ | exact de_one _ | exact rf_one _ | rfl) (by first | exact sg_len _ | exact cx_len _ | exact d_len _ _ _ | exact de_len _ | exact rf_len _ | (simp only [sg_len, cx_len, d_len, de_len, rf_len]) | rfl) ?_))
     | ((refine z_sti 6 rfl rfl ?_; refine o_storeb6 rfl tabOk rfl rfl rfl (by first | exact sg_len _ | exact cx_len _ | exact d_len _ _ _ | exact de_len _ | exact rf_len _ | (simp only [sg_len, cx_len, d_len, de_len, rf_len]) | rfl) (by first | exact sg_one _ | exact cx_one _ | exact d_one _ _ _ | exact de_one _ | exact rf_one _ | rfl) (by first | exact sg_len _ | exact cx_len _ | exact d_len _ _ _ | exact de_len _ | exact rf_len _ | (simp only [sg_len, cx_len, d_len, de_len, rf_len]) | rfl) ?_)))
     | (refine z_st1 rfl rfl ?_; first
     | refine o_store rfl tabOk rfl rfl rfl rfl rfl (by first | exact d_pc _ _ _ | exact de_k _ | exact de_s _ | exact de_a _ | exact d_k _ _ _ | exact d_n _ _ _ | rfl) (by first | rfl) ?_
     | ((refine z_sti 1 rfl rfl ?_; refine o_store1 rfl tabOk rfl rfl rfl rfl rfl (by first | exact d_pc _ _ _ | exact de_k _ | exact de_s _ | exact de_a _ | exact d_k _ _ _ | exact d_n _ _ _ | rfl) (by first | rfl) ?_))
     | ((refine z_sti 2 rfl rfl ?_; refine o_store2 rfl tabOk rfl rfl rfl rfl rfl (by first | exact d_pc _ _ _ | exact de_k _ | exact de_s _ | exact de_a _ | exact d_k _ _ _ | exact d_n _ _ _ | rfl) (by first | rfl) ?_))
     | ((refine z_sti 3 rfl rfl ?_; refine o_store3 rfl tabOk rfl rfl rfl rfl rfl (by first | exact d_pc _ _ _ | exact de_k _ | exact de_s _ | exact de_a _ | exact d_k _ _ _ | exact d_n _ _ _ | rfl) (by first | rfl) ?_))
     | ((refine z_sti 4 rfl rfl ?_; refine o_store4 rfl tabOk rfl rfl rfl rfl rfl (by first | exact d_pc _ _ _ | exact de_k _ | exact de_s _ | exact de_a _ | exact d_k _ _ _ | exact d_n _ _ _ | rfl) (by first | rfl) ?_))
     | ((refine z_sti 5 rfl rfl ?_; refine o_store5 rfl tabOk rfl rfl rfl rfl rfl (by first | exact d_pc _ _ _ | exact de_k _ | exact de_s _ | exact de_a _ | exact d_k _ _ _ | exact d_n _ _ _ | rfl) (by first | rfl) ?_))
     | ((refine z_sti 6 rfl rfl ?_; refine o_store6 rfl tabOk rfl rfl rfl rfl rfl (by first | exact d_pc _ _ _ | exact de_k _ | exact de_s _ | exact de_a _ | exact d_k _ _ _ | exact d_n _ _ _ | rfl) (by first | rfl) ?_))))
     | (refine z_iscall ?_; first
     | ((refine z_iscallf 7 ?_; refine z_isdst 45 ?_; refine o_calla Tryd.func7 rfl rfl rfl (next_v _ _ _ _ _ _ hn1 _ (by repeat (first | exact hT | apply Rds.cons)) hz1) (by decide) fun _ _ => ?_))
     | ((refine z_iscallf 8 ?_; refine o_calla Tryd.func8 rfl rfl rfl (awake_c _ (by repeat (first | exact hT | apply Rds.cons))) (by decide) fun _ _ => ?_))
     | ((refine z_iscallf 9 ?_; refine o_fn rfl Tryd.func9 rfl rfl rfl (raise_fn _ _) (by decide) ?_))
     | ((refine z_iscallf 11 ?_; refine o_fn rfl Tryd.func11 rfl rfl rfl (ret_fn _) (by decide) ?_))
     | ((refine z_iscallf 10 ?_; refine o_fn rfl Tryd.func10 rfl rfl rfl (waits_fn _ _) (by decide) ?_)))
     | (refine z_ispick ?_; first
     | (refine o_pick1 rfl (by first | with_reducible rfl | with_reducible assumption | ((with_reducible refine decide_eq_true ?_); first | with_reducible rfl | with_reducible assumption | omega)) rfl (by decide) ?_)
     | (refine o_pick0 rfl (by first | with_reducible rfl | with_reducible assumption | ((with_reducible refine decide_eq_false ?_); first | with_reducible assumption | omega)) rfl (by decide) ?_)
     | (refine o_pick1 rfl (by first | (simp only [Bool.not_eq_true', decide_eq_false_iff_not]; omega) | (with_reducible assumption) | (rw [decide_eq_false] <;> (first | omega | with_reducible rfl)) | (rw [decide_eq_true] <;> (first | omega | with_reducible rfl)) | (simp; done) | (simp; omega)) rfl (by decide) ?_)
     | (refine o_pick0 rfl (by first | (simp only [Bool.not_eq_false', decide_eq_true_eq]; omega) | (with_reducible assumption) | (rw [decide_eq_false] <;> (first | omega | with_reducible rfl)) | (rw [decide_eq_true] <;> (first | omega | with_reducible rfl)) | (simp; done) | (simp; omega)) rfl (by decide) ?_))
     | (refine z_isix ?_; first
     | refine o_index0 tabOk rfl rfl rfl rfl (by omega) (by omega) (by decide) ?_
     | refine o_index1 tabOk rfl rfl rfl rfl (by omega) (by omega) (by decide) ?_
     | refine o_indexsk tabOk rfl rfl rfl rfl (by omega) (by omega) (by decide) ?_
     | refine o_indexs1 tabOk (by first | assumption) rfl rfl rfl rfl (by omega) (by omega) (by decide) ?_)
     | (refine z_isbi ?_; first
     | refine o_len tabOk rfl rfl (by decide) ?_
     | refine o_min rfl rfl (by decide) ?_
     | refine o_max rfl rfl (by decide) ?_)
     | refine o_move rfl (by decide) ?_
     | refine o_assign rfl (by decide) ?_
     | refine o_nil rfl (by decide) ?_
     | refine o_extract rfl rfl (by decide) ?_
     | refine o_not rfl (by decide) ?_
     | refine o_field0 tabOk rfl rfl rfl rfl rfl (by decide) ?_
     | refine o_field tabOk rfl rfl rfl rfl rfl (by decide) ?_
     | refine o_conv tabOk rfl rfl rfl (by decide) ?_))
end Go.Proofs.YtjejnlfbonpfaaaDoor
