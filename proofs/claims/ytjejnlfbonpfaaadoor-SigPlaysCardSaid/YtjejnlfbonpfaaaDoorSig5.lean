/-
The document's signals: what a program does next.
-/
import Derived.Test.YtjejnlfbonpfaaaDoorSig4
namespace Go.Proofs.YtjejnlfbonpfaaaDoor
set_option linter.unusedVariables false
set_option linter.unusedSimpArgs false
open Eng
attribute [local irreducible] Eng.Hold Eng.Z Eng.S Eng.cells Eng.old Eng.own Sg.cs Cx.cs hsCs deB deT tzi dCs tz Sg.waits Rf.cs boCs
set_option maxHeartbeats 8000000 in
theorem rnext_kill (b : Nat) (r : Rf) (c : Cx) (h1 : r.g 1 = true) : Does Tryd.prog 16 [.pointer (some ⟨b, 0, none⟩), .agg c.cs.toArray] [cells b 34 r.cs] (fun _ : Unit => True) (fun _ => .tuple #[.int .i64 1, .int .i64 1, .agg c.cs.toArray]) (fun _ => [cells b 34 ({ r with g := fun _ => false } : Rf).cs]) := by
  intro w hw
  refine f_enter Tryd.func16 rfl Tryd.ntmps16 rfl hw ?_
  repeat' (first
   | (refine s_is ?_; first
   | refine c_keep1 (id := 3) mixed (by kernel_rfl) ?_
   | (refine s_isret ?_; first
   | exact f_r3 rfl (res_t rfl) (res_t rfl) (res_c tabOk rfl rfl rfl 0 rfl (cx_len _)) () trivial rfl (fun w h => h.sub (List.sublist_append_right [_, _] _)))
   | (refine s_isw ?_; first
   | refine c_seq ?_
   | refine c_block ?_
   | refine c_region ?_
   | refine c_mixed mixed (by kernel_rfl) ?_
   | refine c_skip ?_
   | refine c_ret ?_
   | refine c_exit ?_
   | (refine s_iscond ?_; first
   | (refine c_true rfl (by first | with_reducible rfl | with_reducible assumption | ((with_reducible refine decide_eq_true ?_); first | with_reducible rfl | with_reducible assumption | omega)) ?_)
   | (refine c_false rfl (by first | with_reducible rfl | with_reducible assumption | ((with_reducible refine decide_eq_false ?_); first | with_reducible assumption | omega)) ?_)
   | (refine c_true rfl (by first | (simp only [Bool.not_eq_true', decide_eq_false_iff_not]; omega) | (with_reducible assumption) | (rw [decide_eq_false] <;> (first | omega | with_reducible rfl)) | (rw [decide_eq_true] <;> (first | omega | with_reducible rfl)) | (simp; done) | (simp; omega)) ?_)
   | (refine c_false rfl (by first | (simp only [Bool.not_eq_false', decide_eq_true_eq]; omega) | (with_reducible assumption) | (rw [decide_eq_false] <;> (first | omega | with_reducible rfl)) | (rw [decide_eq_true] <;> (first | omega | with_reducible rfl)) | (simp; done) | (simp; omega)) ?_)
   | refine c_cond rfl (fun hc => ?_) (fun hc => ?_)
   | refine c_condb rfl (fun hc => ?_) (fun hc => ?_)))
   | refine x_then ?_
   | refine x_then_ret ?_
   | refine x_then_exit ?_
   | refine x_block _ ?_
   | refine x_block_ret _ ?_
   | refine x_block_exit _ ?_
   | refine x_block_past (by decide) ?_
   | refine z_tailm ?_)
   | (refine z_isg0 ?_; first
   | refine z_skipu (by decide) rfl rfl ?_
   | (refine z_want0 rfl rfl (by first | with_reducible rfl | with_reducible assumption | ((with_reducible refine decide_eq_false ?_); first | with_reducible assumption | omega)) ?_)
   | (refine z_skip0 (by decide) rfl rfl (by first | with_reducible rfl | with_reducible assumption | ((with_reducible refine decide_eq_true ?_); first | with_reducible rfl | with_reducible assumption | omega)) ?_)
   | (refine z_want0 rfl rfl (by first | (simp only [Bool.not_eq_false', decide_eq_true_eq]; omega) | (with_reducible assumption) | (rw [decide_eq_false] <;> (first | omega | with_reducible rfl)) | (rw [decide_eq_true] <;> (first | omega | with_reducible rfl)) | (simp; done) | (simp; omega)) ?_)
   | (refine z_skip0 (by decide) rfl rfl (by first | (simp only [Bool.not_eq_true', decide_eq_false_iff_not]; omega) | (with_reducible assumption) | (rw [decide_eq_false] <;> (first | omega | with_reducible rfl)) | (rw [decide_eq_true] <;> (first | omega | with_reducible rfl)) | (simp; done) | (simp; omega)) ?_)
   | refine z_guard0 (by decide) rfl rfl (fun hc => ?_) (fun hc => ?_)
   | refine z_guardb (by decide) rfl rfl (fun hc => ?_) (fun hc => ?_))
   | (refine z_isnil ?_; first
   | refine z_keep1 ?_
   | refine z_list ?_
   | refine z_mixed ?_
   | refine z_mono0 ?_
   | refine z_mono1 (by decide) fun g => ?_
   | refine z_mono2 (by decide) (by decide) fun g g' => ?_
   | refine z_mixedx ?_
   | refine z_quiet ?_)
   | (refine z_isop ?_; first
   | refine o_boxa rfl rfl (by decide) fun g => ?_
   | refine o_alloca (e := 26) (vs := Cx.zero.cs) rfl (by kernel_rfl) (by decide) fun g => ?_
   | refine o_build (t := 26) (v := .agg Cx.zero.cs.toArray) rfl (fun _ => by kernel_rfl) (by decide) ?_
   | refine o_build (t := 32) (v := .agg (boCs fun _ => false).toArray) rfl (fun _ => by kernel_rfl) (by decide) ?_
   | (refine z_isbin ?_; first
   | (refine z_isb .add ?_; first
   | refine o_add rfl rfl (by omega) (by omega) (by decide) ?_
   | refine o_addw rfl rfl (by decide) ?_)
   | (refine z_isb .neq ?_; first
   | refine o_ne rfl rfl (by decide) ?_
   | refine o_bne tabOk rfl rfl rfl (by decide) ?_
   | refine o_pne tabOk rfl rfl (by decide) ?_)
   | (refine z_isb .leq ?_; first
   | refine o_le rfl rfl (by decide) ?_))
   | (refine z_isload ?_; first
   | refine o_loadp tabOk rfl rfl rfl 0 rfl (cx_len _) (rf_c _) (by decide) ?_
   | refine o_loadp tabOk rfl rfl rfl 1 rfl (cx_len _) (rf_c _) (by decide) ?_
   | refine o_loadp tabOk rfl rfl rfl 2 rfl (cx_len _) (rf_c _) (by decide) ?_
   | (refine z_ld1 tabOk rfl rfl ?_; first
   | refine o_loadm tabOk rfl rfl rfl (by repeat' (first | exact List.mem_cons_self | apply List.mem_cons_of_mem)) (by first | exact rf_g _ (by omega) | exact rf_h _ (by omega) | exact rf_b _ | exact cx_pc _ | exact cx_r _ (by omega) | rfl) (by decide) ?_
   | refine o_loads tabOk (by first | assumption | exact Rds.cons _ (by assumption) | exact Rds.cons _ (Rds.cons _ (by assumption)) | exact own_rds 0 rfl | exact own_rds 1 rfl | exact own_rds 2 rfl) rfl rfl rfl (by first | exact rf_g _ (by omega) | exact rf_h _ (by omega) | exact rf_b _ | exact cx_pc _ | exact cx_r _ (by omega) | rfl) (by decide) ?_)
   | (refine z_ldw tabOk rfl rfl ?_; first
   | refine o_loadwm tabOk rfl rfl rfl (by repeat' (first | exact List.mem_cons_self | apply List.mem_cons_of_mem)) (by first | exact rf_len _ | exact cx_len _ | exact bo_len _ | (simp only [rf_len, cx_len, bo_len]) | rfl) (by decide) ?_))
   | (refine z_isstore ?_; first
   | (refine o_storew_at rfl 0 tabOk rfl rfl rfl rfl (cx_len _) (cx_one _) (by rw [rf_len, cx_len]; decide) (rf_set_c _ _) ?_)
   | (refine o_storew_at rfl 1 tabOk rfl rfl rfl rfl (cx_len _) (cx_one _) (by rw [rf_len, cx_len]; decide) (rf_set_c _ _) ?_)
   | (refine o_storew_at rfl 2 tabOk rfl rfl rfl rfl (cx_len _) (cx_one _) (by rw [rf_len, cx_len]; decide) (rf_set_c _ _) ?_)
   | (refine o_storew_at rfl 2 tabOk rfl rfl rfl rfl (bo_len _) (bo_one _) (by rw [rf_len, bo_len]; decide) (rf_set_gs _ _) ?_)
   | refine o_storebk 0 tabOk rfl rfl rfl rfl (by first | exact rf_len _ | exact cx_len _ | exact bo_len _ | (simp only [rf_len, cx_len, bo_len]) | rfl) (by first | exact rf_one _ | exact cx_one _ | exact bo_one _ | rfl) (by first | exact rf_len _ | exact cx_len _ | exact bo_len _ | (simp only [rf_len, cx_len, bo_len]) | rfl) ?_
   | (refine z_stw rfl ?_; first
   | ((refine z_sti 0 rfl rfl ?_; refine o_storeb0 rfl tabOk rfl rfl rfl (by first | exact rf_len _ | exact cx_len _ | exact bo_len _ | (simp only [rf_len, cx_len, bo_len]) | rfl) (by first | exact rf_one _ | exact cx_one _ | exact bo_one _ | rfl) (by first | exact rf_len _ | exact cx_len _ | exact bo_len _ | (simp only [rf_len, cx_len, bo_len]) | rfl) ?_))
   | ((refine z_sti 1 rfl rfl ?_; refine o_storeb1 rfl tabOk rfl rfl rfl (by first | exact rf_len _ | exact cx_len _ | exact bo_len _ | (simp only [rf_len, cx_len, bo_len]) | rfl) (by first | exact rf_one _ | exact cx_one _ | exact bo_one _ | rfl) (by first | exact rf_len _ | exact cx_len _ | exact bo_len _ | (simp only [rf_len, cx_len, bo_len]) | rfl) ?_))
   | ((refine z_sti 2 rfl rfl ?_; refine o_storeb2 rfl tabOk rfl rfl rfl (by first | exact rf_len _ | exact cx_len _ | exact bo_len _ | (simp only [rf_len, cx_len, bo_len]) | rfl) (by first | exact rf_one _ | exact cx_one _ | exact bo_one _ | rfl) (by first | exact rf_len _ | exact cx_len _ | exact bo_len _ | (simp only [rf_len, cx_len, bo_len]) | rfl) ?_))
   | ((refine z_sti 3 rfl rfl ?_; refine o_storeb3 rfl tabOk rfl rfl rfl (by first | exact rf_len _ | exact cx_len _ | exact bo_len _ | (simp only [rf_len, cx_len, bo_len]) | rfl) (by first | exact rf_one _ | exact cx_one _ | exact bo_one _ | rfl) (by first | exact rf_len _ | exact cx_len _ | exact bo_len _ | (simp only [rf_len, cx_len, bo_len]) | rfl) ?_))
   | ((refine z_sti 4 rfl rfl ?_; refine o_storeb4 rfl tabOk rfl rfl rfl (by first | exact rf_len _ | exact cx_len _ | exact bo_len _ | (simp only [rf_len, cx_len, bo_len]) | rfl) (by first | exact rf_one _ | exact cx_one _ | exact bo_one _ | rfl) (by first | exact rf_len _ | exact cx_len _ | exact bo_len _ | (simp only [rf_len, cx_len, bo_len]) | rfl) ?_))
   | ((refine z_sti 5 rfl rfl ?_; refine o_storeb5 rfl tabOk rfl rfl rfl (by first | exact rf_len _ | exact cx_len _ | exact bo_len _ | (simp only [rf_len, cx_len, bo_len]) | rfl) (by first | exact rf_one _ | exact cx_one _ | exact bo_one _ | rfl) (by first | exact rf_len _ | exact cx_len _ | exact bo_len _ | (simp only [rf_len, cx_len, bo_len]) | rfl) ?_))
   | ((refine z_sti 6 rfl rfl ?_; refine o_storeb6 rfl tabOk rfl rfl rfl (by first | exact rf_len _ | exact cx_len _ | exact bo_len _ | (simp only [rf_len, cx_len, bo_len]) | rfl) (by first | exact rf_one _ | exact cx_one _ | exact bo_one _ | rfl) (by first | exact rf_len _ | exact cx_len _ | exact bo_len _ | (simp only [rf_len, cx_len, bo_len]) | rfl) ?_)))
   | (refine z_st1 rfl rfl ?_; first
   | refine o_store rfl tabOk rfl rfl rfl rfl rfl (by first | exact rf_g _ (by omega) | exact rf_h _ (by omega) | exact rf_b _ | exact cx_pc _ | exact cx_r _ (by omega) | rfl) (by first | exact rf_set_g _ (by omega) _ | exact rf_set_h _ (by omega) _ | exact rf_set_b _ _ | exact cx_set_pc _ _ | exact cx_set_r _ (by omega) _ | rfl) ?_
   | ((refine z_sti 1 rfl rfl ?_; refine o_store1 rfl tabOk rfl rfl rfl rfl rfl (by first | exact rf_g _ (by omega) | exact rf_h _ (by omega) | exact rf_b _ | exact cx_pc _ | exact cx_r _ (by omega) | rfl) (by first | exact rf_set_g _ (by omega) _ | exact rf_set_h _ (by omega) _ | exact rf_set_b _ _ | exact cx_set_pc _ _ | exact cx_set_r _ (by omega) _ | rfl) ?_))
   | ((refine z_sti 2 rfl rfl ?_; refine o_store2 rfl tabOk rfl rfl rfl rfl rfl (by first | exact rf_g _ (by omega) | exact rf_h _ (by omega) | exact rf_b _ | exact cx_pc _ | exact cx_r _ (by omega) | rfl) (by first | exact rf_set_g _ (by omega) _ | exact rf_set_h _ (by omega) _ | exact rf_set_b _ _ | exact cx_set_pc _ _ | exact cx_set_r _ (by omega) _ | rfl) ?_))
   | ((refine z_sti 3 rfl rfl ?_; refine o_store3 rfl tabOk rfl rfl rfl rfl rfl (by first | exact rf_g _ (by omega) | exact rf_h _ (by omega) | exact rf_b _ | exact cx_pc _ | exact cx_r _ (by omega) | rfl) (by first | exact rf_set_g _ (by omega) _ | exact rf_set_h _ (by omega) _ | exact rf_set_b _ _ | exact cx_set_pc _ _ | exact cx_set_r _ (by omega) _ | rfl) ?_))
   | ((refine z_sti 4 rfl rfl ?_; refine o_store4 rfl tabOk rfl rfl rfl rfl rfl (by first | exact rf_g _ (by omega) | exact rf_h _ (by omega) | exact rf_b _ | exact cx_pc _ | exact cx_r _ (by omega) | rfl) (by first | exact rf_set_g _ (by omega) _ | exact rf_set_h _ (by omega) _ | exact rf_set_b _ _ | exact cx_set_pc _ _ | exact cx_set_r _ (by omega) _ | rfl) ?_))
   | ((refine z_sti 5 rfl rfl ?_; refine o_store5 rfl tabOk rfl rfl rfl rfl rfl (by first | exact rf_g _ (by omega) | exact rf_h _ (by omega) | exact rf_b _ | exact cx_pc _ | exact cx_r _ (by omega) | rfl) (by first | exact rf_set_g _ (by omega) _ | exact rf_set_h _ (by omega) _ | exact rf_set_b _ _ | exact cx_set_pc _ _ | exact cx_set_r _ (by omega) _ | rfl) ?_))
   | ((refine z_sti 6 rfl rfl ?_; refine o_store6 rfl tabOk rfl rfl rfl rfl rfl (by first | exact rf_g _ (by omega) | exact rf_h _ (by omega) | exact rf_b _ | exact cx_pc _ | exact cx_r _ (by omega) | rfl) (by first | exact rf_set_g _ (by omega) _ | exact rf_set_h _ (by omega) _ | exact rf_set_b _ _ | exact cx_set_pc _ _ | exact cx_set_r _ (by omega) _ | rfl) ?_))))
   | (refine z_ispick ?_; first
   | (refine o_pick1 rfl (by first | with_reducible rfl | with_reducible assumption | ((with_reducible refine decide_eq_true ?_); first | with_reducible rfl | with_reducible assumption | omega)) rfl (by decide) ?_)
   | (refine o_pick0 rfl (by first | with_reducible rfl | with_reducible assumption | ((with_reducible refine decide_eq_false ?_); first | with_reducible assumption | omega)) rfl (by decide) ?_)
   | (refine o_pick1 rfl (by first | (simp only [Bool.not_eq_true', decide_eq_false_iff_not]; omega) | (with_reducible assumption) | (rw [decide_eq_false] <;> (first | omega | with_reducible rfl)) | (rw [decide_eq_true] <;> (first | omega | with_reducible rfl)) | (simp; done) | (simp; omega)) rfl (by decide) ?_)
   | (refine o_pick0 rfl (by first | (simp only [Bool.not_eq_false', decide_eq_true_eq]; omega) | (with_reducible assumption) | (rw [decide_eq_false] <;> (first | omega | with_reducible rfl)) | (rw [decide_eq_true] <;> (first | omega | with_reducible rfl)) | (simp; done) | (simp; omega)) rfl (by decide) ?_))
   | (refine z_isix ?_; first
   | refine o_index0 tabOk rfl rfl rfl rfl (by omega) (by omega) (by decide) ?_
   | refine o_index1 tabOk rfl rfl rfl rfl (by omega) (by omega) (by decide) ?_
   | refine o_indexsk tabOk rfl rfl rfl rfl (by omega) (by omega) (by decide) ?_
   | refine o_indexs1 tabOk (by first | assumption) rfl rfl rfl rfl (by omega) (by omega) (by decide) ?_)
   | refine o_move rfl (by decide) ?_
   | refine o_assign rfl (by decide) ?_
   | refine o_nil rfl (by decide) ?_
   | refine o_extract rfl rfl (by decide) ?_
   | refine o_not rfl (by decide) ?_
   | refine o_field0 tabOk rfl rfl rfl rfl rfl (by decide) ?_
   | refine o_field tabOk rfl rfl rfl rfl rfl (by decide) ?_
   | refine o_conv tabOk rfl rfl rfl (by decide) ?_))
set_option maxHeartbeats 8000000 in
theorem rnext_none (b : Nat) (r : Rf) (c : Cx) (h1 : r.g 1 = false) (hall : r.b = true ∨ ∀ j : Int, 2 ≤ j → j ≤ 8 → r.g j.toNat = false) : Does Tryd.prog 16 [.pointer (some ⟨b, 0, none⟩), .agg c.cs.toArray] [cells b 34 r.cs] (fun _ : Unit => True) (fun _ => .tuple #[.int .i64 0, .int .i64 0, .agg c.cs.toArray]) (fun _ => [cells b 34 r.cs]) := by
  intro w hw
  refine f_enter Tryd.func16 rfl Tryd.ntmps16 rfl hw ?_
  repeat' (first
   | (refine s_is ?_; first
   | (refine s_isw ?_; first
   | (refine s_isloop ?_; first
   | ((rename_i g3; refine c_loop (X := Int) (fun k => 2 ≤ k ∧ k ≤ 9) (fun k => [(0, .pointer (some ⟨b, 0, none⟩)), (3, .pointer (some ⟨g3, 0, none⟩)), (6, .pointer (some ⟨g, 0, none⟩)), (7, .int .i64 k)]) (fun k => [cells g 26 Cx.zero.cs, cells g3 26 c.cs, cells b 34 r.cs]) (fun k => (9 - k).toNat) 2 ⟨by decide, by omega⟩ ⟨rfl, rfl, rfl, rfl, trivial⟩ (fun w h => h) (fun k hk => ?_); refine hold ?_)))
   | refine c_seq ?_
   | refine c_block ?_
   | refine c_region ?_
   | refine c_mixed mixed (by kernel_rfl) ?_
   | refine c_skip ?_
   | refine c_ret ?_
   | refine c_exit ?_
   | (refine s_iscond ?_; first
   | (refine c_true rfl (by first | with_reducible rfl | with_reducible assumption | ((with_reducible refine decide_eq_true ?_); first | with_reducible rfl | with_reducible assumption | omega)) ?_)
   | (refine c_false rfl (by first | with_reducible rfl | with_reducible assumption | ((with_reducible refine decide_eq_false ?_); first | with_reducible assumption | omega)) ?_)
   | (refine c_true rfl (by first | (simp only [Bool.not_eq_true', decide_eq_false_iff_not]; omega) | (with_reducible assumption) | (rw [decide_eq_false] <;> (first | omega | with_reducible rfl)) | (rw [decide_eq_true] <;> (first | omega | with_reducible rfl)) | (simp; done) | (simp; omega)) ?_)
   | (refine c_false rfl (by first | (simp only [Bool.not_eq_false', decide_eq_true_eq]; omega) | (with_reducible assumption) | (rw [decide_eq_false] <;> (first | omega | with_reducible rfl)) | (rw [decide_eq_true] <;> (first | omega | with_reducible rfl)) | (simp; done) | (simp; omega)) ?_)
   | refine c_cond rfl (fun hc => ?_) (fun hc => ?_)
   | refine c_condb rfl (fun hc => ?_) (fun hc => ?_)))
   | refine x_then ?_
   | refine x_then_ret ?_
   | refine x_then_exit ?_
   | refine x_block _ ?_
   | refine x_block_ret _ ?_
   | refine x_block_exit _ ?_
   | refine x_block_past (by decide) ?_
   | refine z_tailm ?_)
   | (refine z_isg0 ?_; first
   | refine z_skipu (by decide) rfl rfl ?_
   | (refine z_want0 rfl rfl (by first | with_reducible rfl | with_reducible assumption | ((with_reducible refine decide_eq_false ?_); first | with_reducible assumption | omega)) ?_)
   | (refine z_skip0 (by decide) rfl rfl (by first | with_reducible rfl | with_reducible assumption | ((with_reducible refine decide_eq_true ?_); first | with_reducible rfl | with_reducible assumption | omega)) ?_)
   | (refine z_want0 rfl rfl (by first | (simp only [Bool.not_eq_false', decide_eq_true_eq]; omega) | (with_reducible assumption) | (rw [decide_eq_false] <;> (first | omega | with_reducible rfl)) | (rw [decide_eq_true] <;> (first | omega | with_reducible rfl)) | (simp; done) | (simp; omega)) ?_)
   | (refine z_skip0 (by decide) rfl rfl (by first | (simp only [Bool.not_eq_true', decide_eq_false_iff_not]; omega) | (with_reducible assumption) | (rw [decide_eq_false] <;> (first | omega | with_reducible rfl)) | (rw [decide_eq_true] <;> (first | omega | with_reducible rfl)) | (simp; done) | (simp; omega)) ?_)
   | refine z_guard0 (by decide) rfl rfl (fun hc => ?_) (fun hc => ?_)
   | refine z_guardb (by decide) rfl rfl (fun hc => ?_) (fun hc => ?_))
   | (refine z_isnil ?_; first
   | refine z_keep1 ?_
   | refine z_list ?_
   | refine z_mixed ?_
   | refine z_mono0 ?_
   | refine z_mono1 (by decide) fun g => ?_
   | refine z_mono2 (by decide) (by decide) fun g g' => ?_
   | refine z_mixedx ?_
   | refine z_quiet ?_)
   | (refine z_isop ?_; first
   | refine o_boxa rfl rfl (by decide) fun g => ?_
   | refine o_alloca (e := 26) (vs := Cx.zero.cs) rfl (by kernel_rfl) (by decide) fun g => ?_
   | refine o_build (t := 26) (v := .agg Cx.zero.cs.toArray) rfl (fun _ => by kernel_rfl) (by decide) ?_
   | refine o_build (t := 32) (v := .agg (boCs fun _ => false).toArray) rfl (fun _ => by kernel_rfl) (by decide) ?_
   | (refine z_isbin ?_; first
   | (refine z_isb .add ?_; first
   | refine o_add rfl rfl (by omega) (by omega) (by decide) ?_
   | refine o_addw rfl rfl (by decide) ?_)
   | (refine z_isb .neq ?_; first
   | refine o_ne rfl rfl (by decide) ?_
   | refine o_bne tabOk rfl rfl rfl (by decide) ?_
   | refine o_pne tabOk rfl rfl (by decide) ?_)
   | (refine z_isb .leq ?_; first
   | refine o_le rfl rfl (by decide) ?_))
   | (refine z_isload ?_; first
   | refine o_loadp tabOk rfl rfl rfl 0 rfl (cx_len _) (rf_c _) (by decide) ?_
   | refine o_loadp tabOk rfl rfl rfl 1 rfl (cx_len _) (rf_c _) (by decide) ?_
   | refine o_loadp tabOk rfl rfl rfl 2 rfl (cx_len _) (rf_c _) (by decide) ?_
   | (refine z_ld1 tabOk rfl rfl ?_; first
   | refine o_loadm tabOk rfl rfl rfl (by repeat' (first | exact List.mem_cons_self | apply List.mem_cons_of_mem)) (by first | exact rf_g _ (by omega) | exact rf_h _ (by omega) | exact rf_b _ | exact cx_pc _ | exact cx_r _ (by omega) | rfl) (by decide) ?_
   | refine o_loads tabOk (by first | assumption | exact Rds.cons _ (by assumption) | exact Rds.cons _ (Rds.cons _ (by assumption)) | exact own_rds 0 rfl | exact own_rds 1 rfl | exact own_rds 2 rfl) rfl rfl rfl (by first | exact rf_g _ (by omega) | exact rf_h _ (by omega) | exact rf_b _ | exact cx_pc _ | exact cx_r _ (by omega) | rfl) (by decide) ?_)
   | (refine z_ldw tabOk rfl rfl ?_; first
   | refine o_loadwm tabOk rfl rfl rfl (by repeat' (first | exact List.mem_cons_self | apply List.mem_cons_of_mem)) (by first | exact rf_len _ | exact cx_len _ | exact bo_len _ | (simp only [rf_len, cx_len, bo_len]) | rfl) (by decide) ?_))
   | (refine z_isstore ?_; first
   | (refine o_storew_at rfl 0 tabOk rfl rfl rfl rfl (cx_len _) (cx_one _) (by rw [rf_len, cx_len]; decide) (rf_set_c _ _) ?_)
   | (refine o_storew_at rfl 1 tabOk rfl rfl rfl rfl (cx_len _) (cx_one _) (by rw [rf_len, cx_len]; decide) (rf_set_c _ _) ?_)
   | (refine o_storew_at rfl 2 tabOk rfl rfl rfl rfl (cx_len _) (cx_one _) (by rw [rf_len, cx_len]; decide) (rf_set_c _ _) ?_)
   | (refine o_storew_at rfl 2 tabOk rfl rfl rfl rfl (bo_len _) (bo_one _) (by rw [rf_len, bo_len]; decide) (rf_set_gs _ _) ?_)
   | refine o_storebk 0 tabOk rfl rfl rfl rfl (by first | exact rf_len _ | exact cx_len _ | exact bo_len _ | (simp only [rf_len, cx_len, bo_len]) | rfl) (by first | exact rf_one _ | exact cx_one _ | exact bo_one _ | rfl) (by first | exact rf_len _ | exact cx_len _ | exact bo_len _ | (simp only [rf_len, cx_len, bo_len]) | rfl) ?_
   | (refine z_stw rfl ?_; first
   | ((refine z_sti 0 rfl rfl ?_; refine o_storeb0 rfl tabOk rfl rfl rfl (by first | exact rf_len _ | exact cx_len _ | exact bo_len _ | (simp only [rf_len, cx_len, bo_len]) | rfl) (by first | exact rf_one _ | exact cx_one _ | exact bo_one _ | rfl) (by first | exact rf_len _ | exact cx_len _ | exact bo_len _ | (simp only [rf_len, cx_len, bo_len]) | rfl) ?_))
   | ((refine z_sti 1 rfl rfl ?_; refine o_storeb1 rfl tabOk rfl rfl rfl (by first | exact rf_len _ | exact cx_len _ | exact bo_len _ | (simp only [rf_len, cx_len, bo_len]) | rfl) (by first | exact rf_one _ | exact cx_one _ | exact bo_one _ | rfl) (by first | exact rf_len _ | exact cx_len _ | exact bo_len _ | (simp only [rf_len, cx_len, bo_len]) | rfl) ?_))
   | ((refine z_sti 2 rfl rfl ?_; refine o_storeb2 rfl tabOk rfl rfl rfl (by first | exact rf_len _ | exact cx_len _ | exact bo_len _ | (simp only [rf_len, cx_len, bo_len]) | rfl) (by first | exact rf_one _ | exact cx_one _ | exact bo_one _ | rfl) (by first | exact rf_len _ | exact cx_len _ | exact bo_len _ | (simp only [rf_len, cx_len, bo_len]) | rfl) ?_))
   | ((refine z_sti 3 rfl rfl ?_; refine o_storeb3 rfl tabOk rfl rfl rfl (by first | exact rf_len _ | exact cx_len _ | exact bo_len _ | (simp only [rf_len, cx_len, bo_len]) | rfl) (by first | exact rf_one _ | exact cx_one _ | exact bo_one _ | rfl) (by first | exact rf_len _ | exact cx_len _ | exact bo_len _ | (simp only [rf_len, cx_len, bo_len]) | rfl) ?_))
   | ((refine z_sti 4 rfl rfl ?_; refine o_storeb4 rfl tabOk rfl rfl rfl (by first | exact rf_len _ | exact cx_len _ | exact bo_len _ | (simp only [rf_len, cx_len, bo_len]) | rfl) (by first | exact rf_one _ | exact cx_one _ | exact bo_one _ | rfl) (by first | exact rf_len _ | exact cx_len _ | exact bo_len _ | (simp only [rf_len, cx_len, bo_len]) | rfl) ?_))
   | ((refine z_sti 5 rfl rfl ?_; refine o_storeb5 rfl tabOk rfl rfl rfl (by first | exact rf_len _ | exact cx_len _ | exact bo_len _ | (simp only [rf_len, cx_len, bo_len]) | rfl) (by first | exact rf_one _ | exact cx_one _ | exact bo_one _ | rfl) (by first | exact rf_len _ | exact cx_len _ | exact bo_len _ | (simp only [rf_len, cx_len, bo_len]) | rfl) ?_))
   | ((refine z_sti 6 rfl rfl ?_; refine o_storeb6 rfl tabOk rfl rfl rfl (by first | exact rf_len _ | exact cx_len _ | exact bo_len _ | (simp only [rf_len, cx_len, bo_len]) | rfl) (by first | exact rf_one _ | exact cx_one _ | exact bo_one _ | rfl) (by first | exact rf_len _ | exact cx_len _ | exact bo_len _ | (simp only [rf_len, cx_len, bo_len]) | rfl) ?_)))
   | (refine z_st1 rfl rfl ?_; first
   | refine o_store rfl tabOk rfl rfl rfl rfl rfl (by first | exact rf_g _ (by omega) | exact rf_h _ (by omega) | exact rf_b _ | exact cx_pc _ | exact cx_r _ (by omega) | rfl) (by first | exact rf_set_g _ (by omega) _ | exact rf_set_h _ (by omega) _ | exact rf_set_b _ _ | exact cx_set_pc _ _ | exact cx_set_r _ (by omega) _ | rfl) ?_
   | ((refine z_sti 1 rfl rfl ?_; refine o_store1 rfl tabOk rfl rfl rfl rfl rfl (by first | exact rf_g _ (by omega) | exact rf_h _ (by omega) | exact rf_b _ | exact cx_pc _ | exact cx_r _ (by omega) | rfl) (by first | exact rf_set_g _ (by omega) _ | exact rf_set_h _ (by omega) _ | exact rf_set_b _ _ | exact cx_set_pc _ _ | exact cx_set_r _ (by omega) _ | rfl) ?_))
   | ((refine z_sti 2 rfl rfl ?_; refine o_store2 rfl tabOk rfl rfl rfl rfl rfl (by first | exact rf_g _ (by omega) | exact rf_h _ (by omega) | exact rf_b _ | exact cx_pc _ | exact cx_r _ (by omega) | rfl) (by first | exact rf_set_g _ (by omega) _ | exact rf_set_h _ (by omega) _ | exact rf_set_b _ _ | exact cx_set_pc _ _ | exact cx_set_r _ (by omega) _ | rfl) ?_))
   | ((refine z_sti 3 rfl rfl ?_; refine o_store3 rfl tabOk rfl rfl rfl rfl rfl (by first | exact rf_g _ (by omega) | exact rf_h _ (by omega) | exact rf_b _ | exact cx_pc _ | exact cx_r _ (by omega) | rfl) (by first | exact rf_set_g _ (by omega) _ | exact rf_set_h _ (by omega) _ | exact rf_set_b _ _ | exact cx_set_pc _ _ | exact cx_set_r _ (by omega) _ | rfl) ?_))
   | ((refine z_sti 4 rfl rfl ?_; refine o_store4 rfl tabOk rfl rfl rfl rfl rfl (by first | exact rf_g _ (by omega) | exact rf_h _ (by omega) | exact rf_b _ | exact cx_pc _ | exact cx_r _ (by omega) | rfl) (by first | exact rf_set_g _ (by omega) _ | exact rf_set_h _ (by omega) _ | exact rf_set_b _ _ | exact cx_set_pc _ _ | exact cx_set_r _ (by omega) _ | rfl) ?_))
   | ((refine z_sti 5 rfl rfl ?_; refine o_store5 rfl tabOk rfl rfl rfl rfl rfl (by first | exact rf_g _ (by omega) | exact rf_h _ (by omega) | exact rf_b _ | exact cx_pc _ | exact cx_r _ (by omega) | rfl) (by first | exact rf_set_g _ (by omega) _ | exact rf_set_h _ (by omega) _ | exact rf_set_b _ _ | exact cx_set_pc _ _ | exact cx_set_r _ (by omega) _ | rfl) ?_))
   | ((refine z_sti 6 rfl rfl ?_; refine o_store6 rfl tabOk rfl rfl rfl rfl rfl (by first | exact rf_g _ (by omega) | exact rf_h _ (by omega) | exact rf_b _ | exact cx_pc _ | exact cx_r _ (by omega) | rfl) (by first | exact rf_set_g _ (by omega) _ | exact rf_set_h _ (by omega) _ | exact rf_set_b _ _ | exact cx_set_pc _ _ | exact cx_set_r _ (by omega) _ | rfl) ?_))))
   | (refine z_ispick ?_; first
   | (refine o_pick1 rfl (by first | with_reducible rfl | with_reducible assumption | ((with_reducible refine decide_eq_true ?_); first | with_reducible rfl | with_reducible assumption | omega)) rfl (by decide) ?_)
   | (refine o_pick0 rfl (by first | with_reducible rfl | with_reducible assumption | ((with_reducible refine decide_eq_false ?_); first | with_reducible assumption | omega)) rfl (by decide) ?_)
   | (refine o_pick1 rfl (by first | (simp only [Bool.not_eq_true', decide_eq_false_iff_not]; omega) | (with_reducible assumption) | (rw [decide_eq_false] <;> (first | omega | with_reducible rfl)) | (rw [decide_eq_true] <;> (first | omega | with_reducible rfl)) | (simp; done) | (simp; omega)) rfl (by decide) ?_)
   | (refine o_pick0 rfl (by first | (simp only [Bool.not_eq_false', decide_eq_true_eq]; omega) | (with_reducible assumption) | (rw [decide_eq_false] <;> (first | omega | with_reducible rfl)) | (rw [decide_eq_true] <;> (first | omega | with_reducible rfl)) | (simp; done) | (simp; omega)) rfl (by decide) ?_))
   | (refine z_isix ?_; first
   | refine o_index0 tabOk rfl rfl rfl rfl (by omega) (by omega) (by decide) ?_
   | refine o_index1 tabOk rfl rfl rfl rfl (by omega) (by omega) (by decide) ?_
   | refine o_indexsk tabOk rfl rfl rfl rfl (by omega) (by omega) (by decide) ?_
   | refine o_indexs1 tabOk (by first | assumption) rfl rfl rfl rfl (by omega) (by omega) (by decide) ?_)
   | refine o_move rfl (by decide) ?_
   | refine o_assign rfl (by decide) ?_
   | refine o_nil rfl (by decide) ?_
   | refine o_extract rfl rfl (by decide) ?_
   | refine o_not rfl (by decide) ?_
   | refine o_field0 tabOk rfl rfl rfl rfl rfl (by decide) ?_
   | refine o_field tabOk rfl rfl rfl rfl rfl (by decide) ?_
   | refine o_conv tabOk rfl rfl rfl (by decide) ?_))
  refine Hold.go ?_
  by_cases h9 : k ≤ 8
  · rcases Bool.eq_false_or_eq_true r.b with eb | eb
    · clear hall
      repeat' (first
       | (refine s_is ?_; first
       | (refine s_isagain ?_; first
       | exact c_again (k + 1) ⟨by omega, by omega⟩ (by omega) ⟨rfl, rfl, rfl, rfl, trivial⟩ (fun w h => h))
       | (refine s_isw ?_; first
       | refine c_seq ?_
       | refine c_block ?_
       | refine c_region ?_
       | refine c_mixed mixed (by kernel_rfl) ?_
       | refine c_skip ?_
       | refine c_ret ?_
       | refine c_exit ?_
       | (refine s_iscond ?_; first
       | (refine c_true rfl (by first | with_reducible rfl | with_reducible assumption | ((with_reducible refine decide_eq_true ?_); first | with_reducible rfl | with_reducible assumption | omega)) ?_)
       | (refine c_false rfl (by first | with_reducible rfl | with_reducible assumption | ((with_reducible refine decide_eq_false ?_); first | with_reducible assumption | omega)) ?_)
       | (refine c_true rfl (by first | (simp only [Bool.not_eq_true', decide_eq_false_iff_not]; omega) | (with_reducible assumption) | (rw [decide_eq_false] <;> (first | omega | with_reducible rfl)) | (rw [decide_eq_true] <;> (first | omega | with_reducible rfl)) | (simp; done) | (simp; omega)) ?_)
       | (refine c_false rfl (by first | (simp only [Bool.not_eq_false', decide_eq_true_eq]; omega) | (with_reducible assumption) | (rw [decide_eq_false] <;> (first | omega | with_reducible rfl)) | (rw [decide_eq_true] <;> (first | omega | with_reducible rfl)) | (simp; done) | (simp; omega)) ?_)
       | refine c_cond rfl (fun hc => ?_) (fun hc => ?_)
       | refine c_condb rfl (fun hc => ?_) (fun hc => ?_)))
       | refine x_then ?_
       | refine x_then_ret ?_
       | refine x_then_exit ?_
       | refine x_block _ ?_
       | refine x_block_ret _ ?_
       | refine x_block_exit _ ?_
       | refine x_block_past (by decide) ?_
       | refine z_tailm ?_)
       | (refine z_isg0 ?_; first
       | refine z_skipu (by decide) rfl rfl ?_
       | (refine z_want0 rfl rfl (by first | with_reducible rfl | with_reducible assumption | ((with_reducible refine decide_eq_false ?_); first | with_reducible assumption | omega)) ?_)
       | (refine z_skip0 (by decide) rfl rfl (by first | with_reducible rfl | with_reducible assumption | ((with_reducible refine decide_eq_true ?_); first | with_reducible rfl | with_reducible assumption | omega)) ?_)
       | (refine z_want0 rfl rfl (by first | (simp only [Bool.not_eq_false', decide_eq_true_eq]; omega) | (with_reducible assumption) | (rw [decide_eq_false] <;> (first | omega | with_reducible rfl)) | (rw [decide_eq_true] <;> (first | omega | with_reducible rfl)) | (simp; done) | (simp; omega)) ?_)
       | (refine z_skip0 (by decide) rfl rfl (by first | (simp only [Bool.not_eq_true', decide_eq_false_iff_not]; omega) | (with_reducible assumption) | (rw [decide_eq_false] <;> (first | omega | with_reducible rfl)) | (rw [decide_eq_true] <;> (first | omega | with_reducible rfl)) | (simp; done) | (simp; omega)) ?_)
       | refine z_guard0 (by decide) rfl rfl (fun hc => ?_) (fun hc => ?_)
       | refine z_guardb (by decide) rfl rfl (fun hc => ?_) (fun hc => ?_))
       | (refine z_isnil ?_; first
       | refine z_keep1 ?_
       | refine z_list ?_
       | refine z_mixed ?_
       | refine z_mono0 ?_
       | refine z_mono1 (by decide) fun g => ?_
       | refine z_mono2 (by decide) (by decide) fun g g' => ?_
       | refine z_mixedx ?_
       | refine z_quiet ?_)
       | (refine z_isop ?_; first
       | refine o_boxa rfl rfl (by decide) fun g => ?_
       | refine o_alloca (e := 26) (vs := Cx.zero.cs) rfl (by kernel_rfl) (by decide) fun g => ?_
       | refine o_build (t := 26) (v := .agg Cx.zero.cs.toArray) rfl (fun _ => by kernel_rfl) (by decide) ?_
       | refine o_build (t := 32) (v := .agg (boCs fun _ => false).toArray) rfl (fun _ => by kernel_rfl) (by decide) ?_
       | (refine z_isbin ?_; first
       | (refine z_isb .add ?_; first
       | refine o_add rfl rfl (by omega) (by omega) (by decide) ?_
       | refine o_addw rfl rfl (by decide) ?_)
       | (refine z_isb .neq ?_; first
       | refine o_ne rfl rfl (by decide) ?_
       | refine o_bne tabOk rfl rfl rfl (by decide) ?_
       | refine o_pne tabOk rfl rfl (by decide) ?_)
       | (refine z_isb .leq ?_; first
       | refine o_le rfl rfl (by decide) ?_))
       | (refine z_isload ?_; first
       | refine o_loadp tabOk rfl rfl rfl 0 rfl (cx_len _) (rf_c _) (by decide) ?_
       | refine o_loadp tabOk rfl rfl rfl 1 rfl (cx_len _) (rf_c _) (by decide) ?_
       | refine o_loadp tabOk rfl rfl rfl 2 rfl (cx_len _) (rf_c _) (by decide) ?_
       | (refine z_ld1 tabOk rfl rfl ?_; first
       | refine o_loadm tabOk rfl rfl rfl (by repeat' (first | exact List.mem_cons_self | apply List.mem_cons_of_mem)) (by first | exact rf_g _ (by omega) | exact rf_h _ (by omega) | exact rf_b _ | exact cx_pc _ | exact cx_r _ (by omega) | rfl) (by decide) ?_
       | refine o_loads tabOk (by first | assumption | exact Rds.cons _ (by assumption) | exact Rds.cons _ (Rds.cons _ (by assumption)) | exact own_rds 0 rfl | exact own_rds 1 rfl | exact own_rds 2 rfl) rfl rfl rfl (by first | exact rf_g _ (by omega) | exact rf_h _ (by omega) | exact rf_b _ | exact cx_pc _ | exact cx_r _ (by omega) | rfl) (by decide) ?_)
       | (refine z_ldw tabOk rfl rfl ?_; first
       | refine o_loadwm tabOk rfl rfl rfl (by repeat' (first | exact List.mem_cons_self | apply List.mem_cons_of_mem)) (by first | exact rf_len _ | exact cx_len _ | exact bo_len _ | (simp only [rf_len, cx_len, bo_len]) | rfl) (by decide) ?_))
       | (refine z_isstore ?_; first
       | (refine o_storew_at rfl 0 tabOk rfl rfl rfl rfl (cx_len _) (cx_one _) (by rw [rf_len, cx_len]; decide) (rf_set_c _ _) ?_)
       | (refine o_storew_at rfl 1 tabOk rfl rfl rfl rfl (cx_len _) (cx_one _) (by rw [rf_len, cx_len]; decide) (rf_set_c _ _) ?_)
       | (refine o_storew_at rfl 2 tabOk rfl rfl rfl rfl (cx_len _) (cx_one _) (by rw [rf_len, cx_len]; decide) (rf_set_c _ _) ?_)
       | (refine o_storew_at rfl 2 tabOk rfl rfl rfl rfl (bo_len _) (bo_one _) (by rw [rf_len, bo_len]; decide) (rf_set_gs _ _) ?_)
       | refine o_storebk 0 tabOk rfl rfl rfl rfl (by first | exact rf_len _ | exact cx_len _ | exact bo_len _ | (simp only [rf_len, cx_len, bo_len]) | rfl) (by first | exact rf_one _ | exact cx_one _ | exact bo_one _ | rfl) (by first | exact rf_len _ | exact cx_len _ | exact bo_len _ | (simp only [rf_len, cx_len, bo_len]) | rfl) ?_
       | (refine z_stw rfl ?_; first
       | ((refine z_sti 0 rfl rfl ?_; refine o_storeb0 rfl tabOk rfl rfl rfl (by first | exact rf_len _ | exact cx_len _ | exact bo_len _ | (simp only [rf_len, cx_len, bo_len]) | rfl) (by first | exact rf_one _ | exact cx_one _ | exact bo_one _ | rfl) (by first | exact rf_len _ | exact cx_len _ | exact bo_len _ | (simp only [rf_len, cx_len, bo_len]) | rfl) ?_))
       | ((refine z_sti 1 rfl rfl ?_; refine o_storeb1 rfl tabOk rfl rfl rfl (by first | exact rf_len _ | exact cx_len _ | exact bo_len _ | (simp only [rf_len, cx_len, bo_len]) | rfl) (by first | exact rf_one _ | exact cx_one _ | exact bo_one _ | rfl) (by first | exact rf_len _ | exact cx_len _ | exact bo_len _ | (simp only [rf_len, cx_len, bo_len]) | rfl) ?_))
       | ((refine z_sti 2 rfl rfl ?_; refine o_storeb2 rfl tabOk rfl rfl rfl (by first | exact rf_len _ | exact cx_len _ | exact bo_len _ | (simp only [rf_len, cx_len, bo_len]) | rfl) (by first | exact rf_one _ | exact cx_one _ | exact bo_one _ | rfl) (by first | exact rf_len _ | exact cx_len _ | exact bo_len _ | (simp only [rf_len, cx_len, bo_len]) | rfl) ?_))
       | ((refine z_sti 3 rfl rfl ?_; refine o_storeb3 rfl tabOk rfl rfl rfl (by first | exact rf_len _ | exact cx_len _ | exact bo_len _ | (simp only [rf_len, cx_len, bo_len]) | rfl) (by first | exact rf_one _ | exact cx_one _ | exact bo_one _ | rfl) (by first | exact rf_len _ | exact cx_len _ | exact bo_len _ | (simp only [rf_len, cx_len, bo_len]) | rfl) ?_))
       | ((refine z_sti 4 rfl rfl ?_; refine o_storeb4 rfl tabOk rfl rfl rfl (by first | exact rf_len _ | exact cx_len _ | exact bo_len _ | (simp only [rf_len, cx_len, bo_len]) | rfl) (by first | exact rf_one _ | exact cx_one _ | exact bo_one _ | rfl) (by first | exact rf_len _ | exact cx_len _ | exact bo_len _ | (simp only [rf_len, cx_len, bo_len]) | rfl) ?_))
       | ((refine z_sti 5 rfl rfl ?_; refine o_storeb5 rfl tabOk rfl rfl rfl (by first | exact rf_len _ | exact cx_len _ | exact bo_len _ | (simp only [rf_len, cx_len, bo_len]) | rfl) (by first | exact rf_one _ | exact cx_one _ | exact bo_one _ | rfl) (by first | exact rf_len _ | exact cx_len _ | exact bo_len _ | (simp only [rf_len, cx_len, bo_len]) | rfl) ?_))
       | ((refine z_sti 6 rfl rfl ?_; refine o_storeb6 rfl tabOk rfl rfl rfl (by first | exact rf_len _ | exact cx_len _ | exact bo_len _ | (simp only [rf_len, cx_len, bo_len]) | rfl) (by first | exact rf_one _ | exact cx_one _ | exact bo_one _ | rfl) (by first | exact rf_len _ | exact cx_len _ | exact bo_len _ | (simp only [rf_len, cx_len, bo_len]) | rfl) ?_)))
       | (refine z_st1 rfl rfl ?_; first
       | refine o_store rfl tabOk rfl rfl rfl rfl rfl (by first | exact rf_g _ (by omega) | exact rf_h _ (by omega) | exact rf_b _ | exact cx_pc _ | exact cx_r _ (by omega) | rfl) (by first | exact rf_set_g _ (by omega) _ | exact rf_set_h _ (by omega) _ | exact rf_set_b _ _ | exact cx_set_pc _ _ | exact cx_set_r _ (by omega) _ | rfl) ?_
       | ((refine z_sti 1 rfl rfl ?_; refine o_store1 rfl tabOk rfl rfl rfl rfl rfl (by first | exact rf_g _ (by omega) | exact rf_h _ (by omega) | exact rf_b _ | exact cx_pc _ | exact cx_r _ (by omega) | rfl) (by first | exact rf_set_g _ (by omega) _ | exact rf_set_h _ (by omega) _ | exact rf_set_b _ _ | exact cx_set_pc _ _ | exact cx_set_r _ (by omega) _ | rfl) ?_))
       | ((refine z_sti 2 rfl rfl ?_; refine o_store2 rfl tabOk rfl rfl rfl rfl rfl (by first | exact rf_g _ (by omega) | exact rf_h _ (by omega) | exact rf_b _ | exact cx_pc _ | exact cx_r _ (by omega) | rfl) (by first | exact rf_set_g _ (by omega) _ | exact rf_set_h _ (by omega) _ | exact rf_set_b _ _ | exact cx_set_pc _ _ | exact cx_set_r _ (by omega) _ | rfl) ?_))
       | ((refine z_sti 3 rfl rfl ?_; refine o_store3 rfl tabOk rfl rfl rfl rfl rfl (by first | exact rf_g _ (by omega) | exact rf_h _ (by omega) | exact rf_b _ | exact cx_pc _ | exact cx_r _ (by omega) | rfl) (by first | exact rf_set_g _ (by omega) _ | exact rf_set_h _ (by omega) _ | exact rf_set_b _ _ | exact cx_set_pc _ _ | exact cx_set_r _ (by omega) _ | rfl) ?_))
       | ((refine z_sti 4 rfl rfl ?_; refine o_store4 rfl tabOk rfl rfl rfl rfl rfl (by first | exact rf_g _ (by omega) | exact rf_h _ (by omega) | exact rf_b _ | exact cx_pc _ | exact cx_r _ (by omega) | rfl) (by first | exact rf_set_g _ (by omega) _ | exact rf_set_h _ (by omega) _ | exact rf_set_b _ _ | exact cx_set_pc _ _ | exact cx_set_r _ (by omega) _ | rfl) ?_))
       | ((refine z_sti 5 rfl rfl ?_; refine o_store5 rfl tabOk rfl rfl rfl rfl rfl (by first | exact rf_g _ (by omega) | exact rf_h _ (by omega) | exact rf_b _ | exact cx_pc _ | exact cx_r _ (by omega) | rfl) (by first | exact rf_set_g _ (by omega) _ | exact rf_set_h _ (by omega) _ | exact rf_set_b _ _ | exact cx_set_pc _ _ | exact cx_set_r _ (by omega) _ | rfl) ?_))
       | ((refine z_sti 6 rfl rfl ?_; refine o_store6 rfl tabOk rfl rfl rfl rfl rfl (by first | exact rf_g _ (by omega) | exact rf_h _ (by omega) | exact rf_b _ | exact cx_pc _ | exact cx_r _ (by omega) | rfl) (by first | exact rf_set_g _ (by omega) _ | exact rf_set_h _ (by omega) _ | exact rf_set_b _ _ | exact cx_set_pc _ _ | exact cx_set_r _ (by omega) _ | rfl) ?_))))
       | (refine z_ispick ?_; first
       | (refine o_pick1 rfl (by first | with_reducible rfl | with_reducible assumption | ((with_reducible refine decide_eq_true ?_); first | with_reducible rfl | with_reducible assumption | omega)) rfl (by decide) ?_)
       | (refine o_pick0 rfl (by first | with_reducible rfl | with_reducible assumption | ((with_reducible refine decide_eq_false ?_); first | with_reducible assumption | omega)) rfl (by decide) ?_)
       | (refine o_pick1 rfl (by first | (simp only [Bool.not_eq_true', decide_eq_false_iff_not]; omega) | (with_reducible assumption) | (rw [decide_eq_false] <;> (first | omega | with_reducible rfl)) | (rw [decide_eq_true] <;> (first | omega | with_reducible rfl)) | (simp; done) | (simp; omega)) rfl (by decide) ?_)
       | (refine o_pick0 rfl (by first | (simp only [Bool.not_eq_false', decide_eq_true_eq]; omega) | (with_reducible assumption) | (rw [decide_eq_false] <;> (first | omega | with_reducible rfl)) | (rw [decide_eq_true] <;> (first | omega | with_reducible rfl)) | (simp; done) | (simp; omega)) rfl (by decide) ?_))
       | (refine z_isix ?_; first
       | refine o_index0 tabOk rfl rfl rfl rfl (by omega) (by omega) (by decide) ?_
       | refine o_index1 tabOk rfl rfl rfl rfl (by omega) (by omega) (by decide) ?_
       | refine o_indexsk tabOk rfl rfl rfl rfl (by omega) (by omega) (by decide) ?_
       | refine o_indexs1 tabOk (by first | assumption) rfl rfl rfl rfl (by omega) (by omega) (by decide) ?_)
       | refine o_move rfl (by decide) ?_
       | refine o_assign rfl (by decide) ?_
       | refine o_nil rfl (by decide) ?_
       | refine o_extract rfl rfl (by decide) ?_
       | refine o_not rfl (by decide) ?_
       | refine o_field0 tabOk rfl rfl rfl rfl rfl (by decide) ?_
       | refine o_field tabOk rfl rfl rfl rfl rfl (by decide) ?_
       | refine o_conv tabOk rfl rfl rfl (by decide) ?_))
    · have eg : (!r.g k.toNat) = true := by rw [(hall.resolve_left (by rw [eb]; simp)) k hk.1 h9]; rfl
      clear hall
      repeat' (first
       | (refine s_is ?_; first
       | (refine s_isagain ?_; first
       | exact c_again (k + 1) ⟨by omega, by omega⟩ (by omega) ⟨rfl, rfl, rfl, rfl, trivial⟩ (fun w h => h))
       | (refine s_isw ?_; first
       | refine c_seq ?_
       | refine c_block ?_
       | refine c_region ?_
       | refine c_mixed mixed (by kernel_rfl) ?_
       | refine c_skip ?_
       | refine c_ret ?_
       | refine c_exit ?_
       | (refine s_iscond ?_; first
       | (refine c_true rfl (by first | with_reducible rfl | with_reducible assumption | ((with_reducible refine decide_eq_true ?_); first | with_reducible rfl | with_reducible assumption | omega)) ?_)
       | (refine c_false rfl (by first | with_reducible rfl | with_reducible assumption | ((with_reducible refine decide_eq_false ?_); first | with_reducible assumption | omega)) ?_)
       | (refine c_true rfl (by first | (simp only [Bool.not_eq_true', decide_eq_false_iff_not]; omega) | (with_reducible assumption) | (rw [decide_eq_false] <;> (first | omega | with_reducible rfl)) | (rw [decide_eq_true] <;> (first | omega | with_reducible rfl)) | (simp; done) | (simp; omega)) ?_)
       | (refine c_false rfl (by first | (simp only [Bool.not_eq_false', decide_eq_true_eq]; omega) | (with_reducible assumption) | (rw [decide_eq_false] <;> (first | omega | with_reducible rfl)) | (rw [decide_eq_true] <;> (first | omega | with_reducible rfl)) | (simp; done) | (simp; omega)) ?_)
       | refine c_cond rfl (fun hc => ?_) (fun hc => ?_)
       | refine c_condb rfl (fun hc => ?_) (fun hc => ?_)))
       | refine x_then ?_
       | refine x_then_ret ?_
       | refine x_then_exit ?_
       | refine x_block _ ?_
       | refine x_block_ret _ ?_
       | refine x_block_exit _ ?_
       | refine x_block_past (by decide) ?_
       | refine z_tailm ?_)
       | (refine z_isg0 ?_; first
       | refine z_skipu (by decide) rfl rfl ?_
       | (refine z_want0 rfl rfl (by first | with_reducible rfl | with_reducible assumption | ((with_reducible refine decide_eq_false ?_); first | with_reducible assumption | omega)) ?_)
       | (refine z_skip0 (by decide) rfl rfl (by first | with_reducible rfl | with_reducible assumption | ((with_reducible refine decide_eq_true ?_); first | with_reducible rfl | with_reducible assumption | omega)) ?_)
       | (refine z_want0 rfl rfl (by first | (simp only [Bool.not_eq_false', decide_eq_true_eq]; omega) | (with_reducible assumption) | (rw [decide_eq_false] <;> (first | omega | with_reducible rfl)) | (rw [decide_eq_true] <;> (first | omega | with_reducible rfl)) | (simp; done) | (simp; omega)) ?_)
       | (refine z_skip0 (by decide) rfl rfl (by first | (simp only [Bool.not_eq_true', decide_eq_false_iff_not]; omega) | (with_reducible assumption) | (rw [decide_eq_false] <;> (first | omega | with_reducible rfl)) | (rw [decide_eq_true] <;> (first | omega | with_reducible rfl)) | (simp; done) | (simp; omega)) ?_)
       | refine z_guard0 (by decide) rfl rfl (fun hc => ?_) (fun hc => ?_)
       | refine z_guardb (by decide) rfl rfl (fun hc => ?_) (fun hc => ?_))
       | (refine z_isnil ?_; first
       | refine z_keep1 ?_
       | refine z_list ?_
       | refine z_mixed ?_
       | refine z_mono0 ?_
       | refine z_mono1 (by decide) fun g => ?_
       | refine z_mono2 (by decide) (by decide) fun g g' => ?_
       | refine z_mixedx ?_
       | refine z_quiet ?_)
       | (refine z_isop ?_; first
       | refine o_boxa rfl rfl (by decide) fun g => ?_
       | refine o_alloca (e := 26) (vs := Cx.zero.cs) rfl (by kernel_rfl) (by decide) fun g => ?_
       | refine o_build (t := 26) (v := .agg Cx.zero.cs.toArray) rfl (fun _ => by kernel_rfl) (by decide) ?_
       | refine o_build (t := 32) (v := .agg (boCs fun _ => false).toArray) rfl (fun _ => by kernel_rfl) (by decide) ?_
       | (refine z_isbin ?_; first
       | (refine z_isb .add ?_; first
       | refine o_add rfl rfl (by omega) (by omega) (by decide) ?_
       | refine o_addw rfl rfl (by decide) ?_)
       | (refine z_isb .neq ?_; first
       | refine o_ne rfl rfl (by decide) ?_
       | refine o_bne tabOk rfl rfl rfl (by decide) ?_
       | refine o_pne tabOk rfl rfl (by decide) ?_)
       | (refine z_isb .leq ?_; first
       | refine o_le rfl rfl (by decide) ?_))
       | (refine z_isload ?_; first
       | refine o_loadp tabOk rfl rfl rfl 0 rfl (cx_len _) (rf_c _) (by decide) ?_
       | refine o_loadp tabOk rfl rfl rfl 1 rfl (cx_len _) (rf_c _) (by decide) ?_
       | refine o_loadp tabOk rfl rfl rfl 2 rfl (cx_len _) (rf_c _) (by decide) ?_
       | (refine z_ld1 tabOk rfl rfl ?_; first
       | refine o_loadm tabOk rfl rfl rfl (by repeat' (first | exact List.mem_cons_self | apply List.mem_cons_of_mem)) (by first | exact rf_g _ (by omega) | exact rf_h _ (by omega) | exact rf_b _ | exact cx_pc _ | exact cx_r _ (by omega) | rfl) (by decide) ?_
       | refine o_loads tabOk (by first | assumption | exact Rds.cons _ (by assumption) | exact Rds.cons _ (Rds.cons _ (by assumption)) | exact own_rds 0 rfl | exact own_rds 1 rfl | exact own_rds 2 rfl) rfl rfl rfl (by first | exact rf_g _ (by omega) | exact rf_h _ (by omega) | exact rf_b _ | exact cx_pc _ | exact cx_r _ (by omega) | rfl) (by decide) ?_)
       | (refine z_ldw tabOk rfl rfl ?_; first
       | refine o_loadwm tabOk rfl rfl rfl (by repeat' (first | exact List.mem_cons_self | apply List.mem_cons_of_mem)) (by first | exact rf_len _ | exact cx_len _ | exact bo_len _ | (simp only [rf_len, cx_len, bo_len]) | rfl) (by decide) ?_))
       | (refine z_isstore ?_; first
       | (refine o_storew_at rfl 0 tabOk rfl rfl rfl rfl (cx_len _) (cx_one _) (by rw [rf_len, cx_len]; decide) (rf_set_c _ _) ?_)
       | (refine o_storew_at rfl 1 tabOk rfl rfl rfl rfl (cx_len _) (cx_one _) (by rw [rf_len, cx_len]; decide) (rf_set_c _ _) ?_)
       | (refine o_storew_at rfl 2 tabOk rfl rfl rfl rfl (cx_len _) (cx_one _) (by rw [rf_len, cx_len]; decide) (rf_set_c _ _) ?_)
       | (refine o_storew_at rfl 2 tabOk rfl rfl rfl rfl (bo_len _) (bo_one _) (by rw [rf_len, bo_len]; decide) (rf_set_gs _ _) ?_)
       | refine o_storebk 0 tabOk rfl rfl rfl rfl (by first | exact rf_len _ | exact cx_len _ | exact bo_len _ | (simp only [rf_len, cx_len, bo_len]) | rfl) (by first | exact rf_one _ | exact cx_one _ | exact bo_one _ | rfl) (by first | exact rf_len _ | exact cx_len _ | exact bo_len _ | (simp only [rf_len, cx_len, bo_len]) | rfl) ?_
       | (refine z_stw rfl ?_; first
       | ((refine z_sti 0 rfl rfl ?_; refine o_storeb0 rfl tabOk rfl rfl rfl (by first | exact rf_len _ | exact cx_len _ | exact bo_len _ | (simp only [rf_len, cx_len, bo_len]) | rfl) (by first | exact rf_one _ | exact cx_one _ | exact bo_one _ | rfl) (by first | exact rf_len _ | exact cx_len _ | exact bo_len _ | (simp only [rf_len, cx_len, bo_len]) | rfl) ?_))
       | ((refine z_sti 1 rfl rfl ?_; refine o_storeb1 rfl tabOk rfl rfl rfl (by first | exact rf_len _ | exact cx_len _ | exact bo_len _ | (simp only [rf_len, cx_len, bo_len]) | rfl) (by first | exact rf_one _ | exact cx_one _ | exact bo_one _ | rfl) (by first | exact rf_len _ | exact cx_len _ | exact bo_len _ | (simp only [rf_len, cx_len, bo_len]) | rfl) ?_))
       | ((refine z_sti 2 rfl rfl ?_; refine o_storeb2 rfl tabOk rfl rfl rfl (by first | exact rf_len _ | exact cx_len _ | exact bo_len _ | (simp only [rf_len, cx_len, bo_len]) | rfl) (by first | exact rf_one _ | exact cx_one _ | exact bo_one _ | rfl) (by first | exact rf_len _ | exact cx_len _ | exact bo_len _ | (simp only [rf_len, cx_len, bo_len]) | rfl) ?_))
       | ((refine z_sti 3 rfl rfl ?_; refine o_storeb3 rfl tabOk rfl rfl rfl (by first | exact rf_len _ | exact cx_len _ | exact bo_len _ | (simp only [rf_len, cx_len, bo_len]) | rfl) (by first | exact rf_one _ | exact cx_one _ | exact bo_one _ | rfl) (by first | exact rf_len _ | exact cx_len _ | exact bo_len _ | (simp only [rf_len, cx_len, bo_len]) | rfl) ?_))
       | ((refine z_sti 4 rfl rfl ?_; refine o_storeb4 rfl tabOk rfl rfl rfl (by first | exact rf_len _ | exact cx_len _ | exact bo_len _ | (simp only [rf_len, cx_len, bo_len]) | rfl) (by first | exact rf_one _ | exact cx_one _ | exact bo_one _ | rfl) (by first | exact rf_len _ | exact cx_len _ | exact bo_len _ | (simp only [rf_len, cx_len, bo_len]) | rfl) ?_))
       | ((refine z_sti 5 rfl rfl ?_; refine o_storeb5 rfl tabOk rfl rfl rfl (by first | exact rf_len _ | exact cx_len _ | exact bo_len _ | (simp only [rf_len, cx_len, bo_len]) | rfl) (by first | exact rf_one _ | exact cx_one _ | exact bo_one _ | rfl) (by first | exact rf_len _ | exact cx_len _ | exact bo_len _ | (simp only [rf_len, cx_len, bo_len]) | rfl) ?_))
       | ((refine z_sti 6 rfl rfl ?_; refine o_storeb6 rfl tabOk rfl rfl rfl (by first | exact rf_len _ | exact cx_len _ | exact bo_len _ | (simp only [rf_len, cx_len, bo_len]) | rfl) (by first | exact rf_one _ | exact cx_one _ | exact bo_one _ | rfl) (by first | exact rf_len _ | exact cx_len _ | exact bo_len _ | (simp only [rf_len, cx_len, bo_len]) | rfl) ?_)))
       | (refine z_st1 rfl rfl ?_; first
       | refine o_store rfl tabOk rfl rfl rfl rfl rfl (by first | exact rf_g _ (by omega) | exact rf_h _ (by omega) | exact rf_b _ | exact cx_pc _ | exact cx_r _ (by omega) | rfl) (by first | exact rf_set_g _ (by omega) _ | exact rf_set_h _ (by omega) _ | exact rf_set_b _ _ | exact cx_set_pc _ _ | exact cx_set_r _ (by omega) _ | rfl) ?_
       | ((refine z_sti 1 rfl rfl ?_; refine o_store1 rfl tabOk rfl rfl rfl rfl rfl (by first | exact rf_g _ (by omega) | exact rf_h _ (by omega) | exact rf_b _ | exact cx_pc _ | exact cx_r _ (by omega) | rfl) (by first | exact rf_set_g _ (by omega) _ | exact rf_set_h _ (by omega) _ | exact rf_set_b _ _ | exact cx_set_pc _ _ | exact cx_set_r _ (by omega) _ | rfl) ?_))
       | ((refine z_sti 2 rfl rfl ?_; refine o_store2 rfl tabOk rfl rfl rfl rfl rfl (by first | exact rf_g _ (by omega) | exact rf_h _ (by omega) | exact rf_b _ | exact cx_pc _ | exact cx_r _ (by omega) | rfl) (by first | exact rf_set_g _ (by omega) _ | exact rf_set_h _ (by omega) _ | exact rf_set_b _ _ | exact cx_set_pc _ _ | exact cx_set_r _ (by omega) _ | rfl) ?_))
       | ((refine z_sti 3 rfl rfl ?_; refine o_store3 rfl tabOk rfl rfl rfl rfl rfl (by first | exact rf_g _ (by omega) | exact rf_h _ (by omega) | exact rf_b _ | exact cx_pc _ | exact cx_r _ (by omega) | rfl) (by first | exact rf_set_g _ (by omega) _ | exact rf_set_h _ (by omega) _ | exact rf_set_b _ _ | exact cx_set_pc _ _ | exact cx_set_r _ (by omega) _ | rfl) ?_))
       | ((refine z_sti 4 rfl rfl ?_; refine o_store4 rfl tabOk rfl rfl rfl rfl rfl (by first | exact rf_g _ (by omega) | exact rf_h _ (by omega) | exact rf_b _ | exact cx_pc _ | exact cx_r _ (by omega) | rfl) (by first | exact rf_set_g _ (by omega) _ | exact rf_set_h _ (by omega) _ | exact rf_set_b _ _ | exact cx_set_pc _ _ | exact cx_set_r _ (by omega) _ | rfl) ?_))
       | ((refine z_sti 5 rfl rfl ?_; refine o_store5 rfl tabOk rfl rfl rfl rfl rfl (by first | exact rf_g _ (by omega) | exact rf_h _ (by omega) | exact rf_b _ | exact cx_pc _ | exact cx_r _ (by omega) | rfl) (by first | exact rf_set_g _ (by omega) _ | exact rf_set_h _ (by omega) _ | exact rf_set_b _ _ | exact cx_set_pc _ _ | exact cx_set_r _ (by omega) _ | rfl) ?_))
       | ((refine z_sti 6 rfl rfl ?_; refine o_store6 rfl tabOk rfl rfl rfl rfl rfl (by first | exact rf_g _ (by omega) | exact rf_h _ (by omega) | exact rf_b _ | exact cx_pc _ | exact cx_r _ (by omega) | rfl) (by first | exact rf_set_g _ (by omega) _ | exact rf_set_h _ (by omega) _ | exact rf_set_b _ _ | exact cx_set_pc _ _ | exact cx_set_r _ (by omega) _ | rfl) ?_))))
       | (refine z_ispick ?_; first
       | (refine o_pick1 rfl (by first | with_reducible rfl | with_reducible assumption | ((with_reducible refine decide_eq_true ?_); first | with_reducible rfl | with_reducible assumption | omega)) rfl (by decide) ?_)
       | (refine o_pick0 rfl (by first | with_reducible rfl | with_reducible assumption | ((with_reducible refine decide_eq_false ?_); first | with_reducible assumption | omega)) rfl (by decide) ?_)
       | (refine o_pick1 rfl (by first | (simp only [Bool.not_eq_true', decide_eq_false_iff_not]; omega) | (with_reducible assumption) | (rw [decide_eq_false] <;> (first | omega | with_reducible rfl)) | (rw [decide_eq_true] <;> (first | omega | with_reducible rfl)) | (simp; done) | (simp; omega)) rfl (by decide) ?_)
       | (refine o_pick0 rfl (by first | (simp only [Bool.not_eq_false', decide_eq_true_eq]; omega) | (with_reducible assumption) | (rw [decide_eq_false] <;> (first | omega | with_reducible rfl)) | (rw [decide_eq_true] <;> (first | omega | with_reducible rfl)) | (simp; done) | (simp; omega)) rfl (by decide) ?_))
       | (refine z_isix ?_; first
       | refine o_index0 tabOk rfl rfl rfl rfl (by omega) (by omega) (by decide) ?_
       | refine o_index1 tabOk rfl rfl rfl rfl (by omega) (by omega) (by decide) ?_
       | refine o_indexsk tabOk rfl rfl rfl rfl (by omega) (by omega) (by decide) ?_
       | refine o_indexs1 tabOk (by first | assumption) rfl rfl rfl rfl (by omega) (by omega) (by decide) ?_)
       | refine o_move rfl (by decide) ?_
       | refine o_assign rfl (by decide) ?_
       | refine o_nil rfl (by decide) ?_
       | refine o_extract rfl rfl (by decide) ?_
       | refine o_not rfl (by decide) ?_
       | refine o_field0 tabOk rfl rfl rfl rfl rfl (by decide) ?_
       | refine o_field tabOk rfl rfl rfl rfl rfl (by decide) ?_
       | refine o_conv tabOk rfl rfl rfl (by decide) ?_))
  · clear hall
    repeat' (first
     | (refine s_is ?_; first
     | refine c_keep1 (id := 17) mixed (by kernel_rfl) ?_
     | (refine s_isret ?_; first
     | exact f_r3 rfl (res_t rfl) (res_t rfl) (res_c tabOk rfl rfl rfl 0 rfl (cx_len _)) () trivial rfl (fun w h => h.sub (List.sublist_append_right [_, _] _)))
     | (refine s_isw ?_; first
     | refine c_seq ?_
     | refine c_block ?_
     | refine c_region ?_
     | refine c_mixed mixed (by kernel_rfl) ?_
     | refine c_skip ?_
     | refine c_ret ?_
     | refine c_exit ?_
     | (refine s_iscond ?_; first
     | (refine c_true rfl (by first | with_reducible rfl | with_reducible assumption | ((with_reducible refine decide_eq_true ?_); first | with_reducible rfl | with_reducible assumption | omega)) ?_)
     | (refine c_false rfl (by first | with_reducible rfl | with_reducible assumption | ((with_reducible refine decide_eq_false ?_); first | with_reducible assumption | omega)) ?_)
     | (refine c_true rfl (by first | (simp only [Bool.not_eq_true', decide_eq_false_iff_not]; omega) | (with_reducible assumption) | (rw [decide_eq_false] <;> (first | omega | with_reducible rfl)) | (rw [decide_eq_true] <;> (first | omega | with_reducible rfl)) | (simp; done) | (simp; omega)) ?_)
     | (refine c_false rfl (by first | (simp only [Bool.not_eq_false', decide_eq_true_eq]; omega) | (with_reducible assumption) | (rw [decide_eq_false] <;> (first | omega | with_reducible rfl)) | (rw [decide_eq_true] <;> (first | omega | with_reducible rfl)) | (simp; done) | (simp; omega)) ?_)
     | refine c_cond rfl (fun hc => ?_) (fun hc => ?_)
     | refine c_condb rfl (fun hc => ?_) (fun hc => ?_)))
     | refine x_then ?_
     | refine x_then_ret ?_
     | refine x_then_exit ?_
     | refine x_block _ ?_
     | refine x_block_ret _ ?_
     | refine x_block_exit _ ?_
     | refine x_block_past (by decide) ?_
     | refine z_tailm ?_)
     | (refine z_isg0 ?_; first
     | refine z_skipu (by decide) rfl rfl ?_
     | (refine z_want0 rfl rfl (by first | with_reducible rfl | with_reducible assumption | ((with_reducible refine decide_eq_false ?_); first | with_reducible assumption | omega)) ?_)
     | (refine z_skip0 (by decide) rfl rfl (by first | with_reducible rfl | with_reducible assumption | ((with_reducible refine decide_eq_true ?_); first | with_reducible rfl | with_reducible assumption | omega)) ?_)
     | (refine z_want0 rfl rfl (by first | (simp only [Bool.not_eq_false', decide_eq_true_eq]; omega) | (with_reducible assumption) | (rw [decide_eq_false] <;> (first | omega | with_reducible rfl)) | (rw [decide_eq_true] <;> (first | omega | with_reducible rfl)) | (simp; done) | (simp; omega)) ?_)
     | (refine z_skip0 (by decide) rfl rfl (by first | (simp only [Bool.not_eq_true', decide_eq_false_iff_not]; omega) | (with_reducible assumption) | (rw [decide_eq_false] <;> (first | omega | with_reducible rfl)) | (rw [decide_eq_true] <;> (first | omega | with_reducible rfl)) | (simp; done) | (simp; omega)) ?_)
     | refine z_guard0 (by decide) rfl rfl (fun hc => ?_) (fun hc => ?_)
     | refine z_guardb (by decide) rfl rfl (fun hc => ?_) (fun hc => ?_))
     | (refine z_isnil ?_; first
     | refine z_keep1 ?_
     | refine z_list ?_
     | refine z_mixed ?_
     | refine z_mono0 ?_
     | refine z_mono1 (by decide) fun g => ?_
     | refine z_mono2 (by decide) (by decide) fun g g' => ?_
     | refine z_mixedx ?_
     | refine z_quiet ?_)
     | (refine z_isop ?_; first
     | refine o_boxa rfl rfl (by decide) fun g => ?_
     | refine o_alloca (e := 26) (vs := Cx.zero.cs) rfl (by kernel_rfl) (by decide) fun g => ?_
     | refine o_build (t := 26) (v := .agg Cx.zero.cs.toArray) rfl (fun _ => by kernel_rfl) (by decide) ?_
     | refine o_build (t := 32) (v := .agg (boCs fun _ => false).toArray) rfl (fun _ => by kernel_rfl) (by decide) ?_
     | (refine z_isbin ?_; first
     | (refine z_isb .add ?_; first
     | refine o_add rfl rfl (by omega) (by omega) (by decide) ?_
     | refine o_addw rfl rfl (by decide) ?_)
     | (refine z_isb .neq ?_; first
     | refine o_ne rfl rfl (by decide) ?_
     | refine o_bne tabOk rfl rfl rfl (by decide) ?_
     | refine o_pne tabOk rfl rfl (by decide) ?_)
     | (refine z_isb .leq ?_; first
     | refine o_le rfl rfl (by decide) ?_))
     | (refine z_isload ?_; first
     | refine o_loadp tabOk rfl rfl rfl 0 rfl (cx_len _) (rf_c _) (by decide) ?_
     | refine o_loadp tabOk rfl rfl rfl 1 rfl (cx_len _) (rf_c _) (by decide) ?_
     | refine o_loadp tabOk rfl rfl rfl 2 rfl (cx_len _) (rf_c _) (by decide) ?_
     | (refine z_ld1 tabOk rfl rfl ?_; first
     | refine o_loadm tabOk rfl rfl rfl (by repeat' (first | exact List.mem_cons_self | apply List.mem_cons_of_mem)) (by first | exact rf_g _ (by omega) | exact rf_h _ (by omega) | exact rf_b _ | exact cx_pc _ | exact cx_r _ (by omega) | rfl) (by decide) ?_
     | refine o_loads tabOk (by first | assumption | exact Rds.cons _ (by assumption) | exact Rds.cons _ (Rds.cons _ (by assumption)) | exact own_rds 0 rfl | exact own_rds 1 rfl | exact own_rds 2 rfl) rfl rfl rfl (by first | exact rf_g _ (by omega) | exact rf_h _ (by omega) | exact rf_b _ | exact cx_pc _ | exact cx_r _ (by omega) | rfl) (by decide) ?_)
     | (refine z_ldw tabOk rfl rfl ?_; first
     | refine o_loadwm tabOk rfl rfl rfl (by repeat' (first | exact List.mem_cons_self | apply List.mem_cons_of_mem)) (by first | exact rf_len _ | exact cx_len _ | exact bo_len _ | (simp only [rf_len, cx_len, bo_len]) | rfl) (by decide) ?_))
     | (refine z_isstore ?_; first
     | (refine o_storew_at rfl 0 tabOk rfl rfl rfl rfl (cx_len _) (cx_one _) (by rw [rf_len, cx_len]; decide) (rf_set_c _ _) ?_)
     | (refine o_storew_at rfl 1 tabOk rfl rfl rfl rfl (cx_len _) (cx_one _) (by rw [rf_len, cx_len]; decide) (rf_set_c _ _) ?_)
     | (refine o_storew_at rfl 2 tabOk rfl rfl rfl rfl (cx_len _) (cx_one _) (by rw [rf_len, cx_len]; decide) (rf_set_c _ _) ?_)
     | (refine o_storew_at rfl 2 tabOk rfl rfl rfl rfl (bo_len _) (bo_one _) (by rw [rf_len, bo_len]; decide) (rf_set_gs _ _) ?_)
     | refine o_storebk 0 tabOk rfl rfl rfl rfl (by first | exact rf_len _ | exact cx_len _ | exact bo_len _ | (simp only [rf_len, cx_len, bo_len]) | rfl) (by first | exact rf_one _ | exact cx_one _ | exact bo_one _ | rfl) (by first | exact rf_len _ | exact cx_len _ | exact bo_len _ | (simp only [rf_len, cx_len, bo_len]) | rfl) ?_
     | (refine z_stw rfl ?_; first
     | ((refine z_sti 0 rfl rfl ?_; refine o_storeb0 rfl tabOk rfl rfl rfl (by first | exact rf_len _ | exact cx_len _ | exact bo_len _ | (simp only [rf_len, cx_len, bo_len]) | rfl) (by first | exact rf_one _ | exact cx_one _ | exact bo_one _ | rfl) (by first | exact rf_len _ | exact cx_len _ | exact bo_len _ | (simp only [rf_len, cx_len, bo_len]) | rfl) ?_))
     | ((refine z_sti 1 rfl rfl ?_; refine o_storeb1 rfl tabOk rfl rfl rfl (by first | exact rf_len _ | exact cx_len _ | exact bo_len _ | (simp only [rf_len, cx_len, bo_len]) | rfl) (by first | exact rf_one _ | exact cx_one _ | exact bo_one _ | rfl) (by first | exact rf_len _ | exact cx_len _ | exact bo_len _ | (simp only [rf_len, cx_len, bo_len]) | rfl) ?_))
     | ((refine z_sti 2 rfl rfl ?_; refine o_storeb2 rfl tabOk rfl rfl rfl (by first | exact rf_len _ | exact cx_len _ | exact bo_len _ | (simp only [rf_len, cx_len, bo_len]) | rfl) (by first | exact rf_one _ | exact cx_one _ | exact bo_one _ | rfl) (by first | exact rf_len _ | exact cx_len _ | exact bo_len _ | (simp only [rf_len, cx_len, bo_len]) | rfl) ?_))
     | ((refine z_sti 3 rfl rfl ?_; refine o_storeb3 rfl tabOk rfl rfl rfl (by first | exact rf_len _ | exact cx_len _ | exact bo_len _ | (simp only [rf_len, cx_len, bo_len]) | rfl) (by first | exact rf_one _ | exact cx_one _ | exact bo_one _ | rfl) (by first | exact rf_len _ | exact cx_len _ | exact bo_len _ | (simp only [rf_len, cx_len, bo_len]) | rfl) ?_))
     | ((refine z_sti 4 rfl rfl ?_; refine o_storeb4 rfl tabOk rfl rfl rfl (by first | exact rf_len _ | exact cx_len _ | exact bo_len _ | (simp only [rf_len, cx_len, bo_len]) | rfl) (by first | exact rf_one _ | exact cx_one _ | exact bo_one _ | rfl) (by first | exact rf_len _ | exact cx_len _ | exact bo_len _ | (simp only [rf_len, cx_len, bo_len]) | rfl) ?_))
     | ((refine z_sti 5 rfl rfl ?_; refine o_storeb5 rfl tabOk rfl rfl rfl (by first | exact rf_len _ | exact cx_len _ | exact bo_len _ | (simp only [rf_len, cx_len, bo_len]) | rfl) (by first | exact rf_one _ | exact cx_one _ | exact bo_one _ | rfl) (by first | exact rf_len _ | exact cx_len _ | exact bo_len _ | (simp only [rf_len, cx_len, bo_len]) | rfl) ?_))
     | ((refine z_sti 6 rfl rfl ?_; refine o_storeb6 rfl tabOk rfl rfl rfl (by first | exact rf_len _ | exact cx_len _ | exact bo_len _ | (simp only [rf_len, cx_len, bo_len]) | rfl) (by first | exact rf_one _ | exact cx_one _ | exact bo_one _ | rfl) (by first | exact rf_len _ | exact cx_len _ | exact bo_len _ | (simp only [rf_len, cx_len, bo_len]) | rfl) ?_)))
     | (refine z_st1 rfl rfl ?_; first
     | refine o_store rfl tabOk rfl rfl rfl rfl rfl (by first | exact rf_g _ (by omega) | exact rf_h _ (by omega) | exact rf_b _ | exact cx_pc _ | exact cx_r _ (by omega) | rfl) (by first | exact rf_set_g _ (by omega) _ | exact rf_set_h _ (by omega) _ | exact rf_set_b _ _ | exact cx_set_pc _ _ | exact cx_set_r _ (by omega) _ | rfl) ?_
     | ((refine z_sti 1 rfl rfl ?_; refine o_store1 rfl tabOk rfl rfl rfl rfl rfl (by first | exact rf_g _ (by omega) | exact rf_h _ (by omega) | exact rf_b _ | exact cx_pc _ | exact cx_r _ (by omega) | rfl) (by first | exact rf_set_g _ (by omega) _ | exact rf_set_h _ (by omega) _ | exact rf_set_b _ _ | exact cx_set_pc _ _ | exact cx_set_r _ (by omega) _ | rfl) ?_))
     | ((refine z_sti 2 rfl rfl ?_; refine o_store2 rfl tabOk rfl rfl rfl rfl rfl (by first | exact rf_g _ (by omega) | exact rf_h _ (by omega) | exact rf_b _ | exact cx_pc _ | exact cx_r _ (by omega) | rfl) (by first | exact rf_set_g _ (by omega) _ | exact rf_set_h _ (by omega) _ | exact rf_set_b _ _ | exact cx_set_pc _ _ | exact cx_set_r _ (by omega) _ | rfl) ?_))
     | ((refine z_sti 3 rfl rfl ?_; refine o_store3 rfl tabOk rfl rfl rfl rfl rfl (by first | exact rf_g _ (by omega) | exact rf_h _ (by omega) | exact rf_b _ | exact cx_pc _ | exact cx_r _ (by omega) | rfl) (by first | exact rf_set_g _ (by omega) _ | exact rf_set_h _ (by omega) _ | exact rf_set_b _ _ | exact cx_set_pc _ _ | exact cx_set_r _ (by omega) _ | rfl) ?_))
     | ((refine z_sti 4 rfl rfl ?_; refine o_store4 rfl tabOk rfl rfl rfl rfl rfl (by first | exact rf_g _ (by omega) | exact rf_h _ (by omega) | exact rf_b _ | exact cx_pc _ | exact cx_r _ (by omega) | rfl) (by first | exact rf_set_g _ (by omega) _ | exact rf_set_h _ (by omega) _ | exact rf_set_b _ _ | exact cx_set_pc _ _ | exact cx_set_r _ (by omega) _ | rfl) ?_))
     | ((refine z_sti 5 rfl rfl ?_; refine o_store5 rfl tabOk rfl rfl rfl rfl rfl (by first | exact rf_g _ (by omega) | exact rf_h _ (by omega) | exact rf_b _ | exact cx_pc _ | exact cx_r _ (by omega) | rfl) (by first | exact rf_set_g _ (by omega) _ | exact rf_set_h _ (by omega) _ | exact rf_set_b _ _ | exact cx_set_pc _ _ | exact cx_set_r _ (by omega) _ | rfl) ?_))
     | ((refine z_sti 6 rfl rfl ?_; refine o_store6 rfl tabOk rfl rfl rfl rfl rfl (by first | exact rf_g _ (by omega) | exact rf_h _ (by omega) | exact rf_b _ | exact cx_pc _ | exact cx_r _ (by omega) | rfl) (by first | exact rf_set_g _ (by omega) _ | exact rf_set_h _ (by omega) _ | exact rf_set_b _ _ | exact cx_set_pc _ _ | exact cx_set_r _ (by omega) _ | rfl) ?_))))
     | (refine z_ispick ?_; first
     | (refine o_pick1 rfl (by first | with_reducible rfl | with_reducible assumption | ((with_reducible refine decide_eq_true ?_); first | with_reducible rfl | with_reducible assumption | omega)) rfl (by decide) ?_)
     | (refine o_pick0 rfl (by first | with_reducible rfl | with_reducible assumption | ((with_reducible refine decide_eq_false ?_); first | with_reducible assumption | omega)) rfl (by decide) ?_)
     | (refine o_pick1 rfl (by first | (simp only [Bool.not_eq_true', decide_eq_false_iff_not]; omega) | (with_reducible assumption) | (rw [decide_eq_false] <;> (first | omega | with_reducible rfl)) | (rw [decide_eq_true] <;> (first | omega | with_reducible rfl)) | (simp; done) | (simp; omega)) rfl (by decide) ?_)
     | (refine o_pick0 rfl (by first | (simp only [Bool.not_eq_false', decide_eq_true_eq]; omega) | (with_reducible assumption) | (rw [decide_eq_false] <;> (first | omega | with_reducible rfl)) | (rw [decide_eq_true] <;> (first | omega | with_reducible rfl)) | (simp; done) | (simp; omega)) rfl (by decide) ?_))
     | (refine z_isix ?_; first
     | refine o_index0 tabOk rfl rfl rfl rfl (by omega) (by omega) (by decide) ?_
     | refine o_index1 tabOk rfl rfl rfl rfl (by omega) (by omega) (by decide) ?_
     | refine o_indexsk tabOk rfl rfl rfl rfl (by omega) (by omega) (by decide) ?_
     | refine o_indexs1 tabOk (by first | assumption) rfl rfl rfl rfl (by omega) (by omega) (by decide) ?_)
     | refine o_move rfl (by decide) ?_
     | refine o_assign rfl (by decide) ?_
     | refine o_nil rfl (by decide) ?_
     | refine o_extract rfl rfl (by decide) ?_
     | refine o_not rfl (by decide) ?_
     | refine o_field0 tabOk rfl rfl rfl rfl rfl (by decide) ?_
     | refine o_field tabOk rfl rfl rfl rfl rfl (by decide) ?_
     | refine o_conv tabOk rfl rfl rfl (by decide) ?_))
set_option maxHeartbeats 8000000 in
theorem rnext_run (b : Nat) (r : Rf) (c : Cx) (n : Int) (h2 : 2 ≤ n) (h8 : n ≤ 8) (h1 : r.g 1 = false) (eb : r.b = false) (hall : ∀ j : Int, 2 ≤ j → j < n → r.g j.toNat = false) (hg : r.g n.toNat = true) (hh : r.h n.toNat ≠ 0) : Does Tryd.prog 16 [.pointer (some ⟨b, 0, none⟩), .agg c.cs.toArray] [cells b 34 r.cs] (fun _ : Unit => True) (fun _ => .tuple #[.int .i64 2, .int .i64 n, .agg ({ c with pc := r.h n.toNat, r := upd c.r 1 (IntKind.u32.wrap n) } : Cx).cs.toArray]) (fun _ => [cells b 34 ({ r with g := upd r.g n.toNat false, b := true, c := c } : Rf).cs]) := by
  intro w hw
  refine f_enter Tryd.func16 rfl Tryd.ntmps16 rfl hw ?_
  have e3 : decide (r.h n.toNat ≠ 0) = true := by simp [hh]
  repeat' (first
   | (refine s_is ?_; first
   | (refine s_isw ?_; first
   | (refine s_isloop ?_; first
   | ((rename_i g3; refine c_loop (X := Int) (fun k => 2 ≤ k ∧ k ≤ n) (fun k => [(0, .pointer (some ⟨b, 0, none⟩)), (3, .pointer (some ⟨g3, 0, none⟩)), (6, .pointer (some ⟨g, 0, none⟩)), (7, .int .i64 k)]) (fun k => [cells g 26 Cx.zero.cs, cells g3 26 c.cs, cells b 34 r.cs]) (fun k => (9 - k).toNat) 2 ⟨by decide, by omega⟩ ⟨rfl, rfl, rfl, rfl, trivial⟩ (fun w h => h) (fun k hk => ?_); refine hold ?_)))
   | refine c_seq ?_
   | refine c_block ?_
   | refine c_region ?_
   | refine c_mixed mixed (by kernel_rfl) ?_
   | refine c_skip ?_
   | refine c_ret ?_
   | refine c_exit ?_
   | (refine s_iscond ?_; first
   | (refine c_true rfl (by first | with_reducible rfl | with_reducible assumption | ((with_reducible refine decide_eq_true ?_); first | with_reducible rfl | with_reducible assumption | omega)) ?_)
   | (refine c_false rfl (by first | with_reducible rfl | with_reducible assumption | ((with_reducible refine decide_eq_false ?_); first | with_reducible assumption | omega)) ?_)
   | (refine c_true rfl (by first | (simp only [Bool.not_eq_true', decide_eq_false_iff_not]; omega) | (with_reducible assumption) | (rw [decide_eq_false] <;> (first | omega | with_reducible rfl)) | (rw [decide_eq_true] <;> (first | omega | with_reducible rfl)) | (simp; done) | (simp; omega)) ?_)
   | (refine c_false rfl (by first | (simp only [Bool.not_eq_false', decide_eq_true_eq]; omega) | (with_reducible assumption) | (rw [decide_eq_false] <;> (first | omega | with_reducible rfl)) | (rw [decide_eq_true] <;> (first | omega | with_reducible rfl)) | (simp; done) | (simp; omega)) ?_)
   | refine c_cond rfl (fun hc => ?_) (fun hc => ?_)
   | refine c_condb rfl (fun hc => ?_) (fun hc => ?_)))
   | refine x_then ?_
   | refine x_then_ret ?_
   | refine x_then_exit ?_
   | refine x_block _ ?_
   | refine x_block_ret _ ?_
   | refine x_block_exit _ ?_
   | refine x_block_past (by decide) ?_
   | refine z_tailm ?_)
   | (refine z_isg0 ?_; first
   | refine z_skipu (by decide) rfl rfl ?_
   | (refine z_want0 rfl rfl (by first | with_reducible rfl | with_reducible assumption | ((with_reducible refine decide_eq_false ?_); first | with_reducible assumption | omega)) ?_)
   | (refine z_skip0 (by decide) rfl rfl (by first | with_reducible rfl | with_reducible assumption | ((with_reducible refine decide_eq_true ?_); first | with_reducible rfl | with_reducible assumption | omega)) ?_)
   | (refine z_want0 rfl rfl (by first | (simp only [Bool.not_eq_false', decide_eq_true_eq]; omega) | (with_reducible assumption) | (rw [decide_eq_false] <;> (first | omega | with_reducible rfl)) | (rw [decide_eq_true] <;> (first | omega | with_reducible rfl)) | (simp; done) | (simp; omega)) ?_)
   | (refine z_skip0 (by decide) rfl rfl (by first | (simp only [Bool.not_eq_true', decide_eq_false_iff_not]; omega) | (with_reducible assumption) | (rw [decide_eq_false] <;> (first | omega | with_reducible rfl)) | (rw [decide_eq_true] <;> (first | omega | with_reducible rfl)) | (simp; done) | (simp; omega)) ?_)
   | refine z_guard0 (by decide) rfl rfl (fun hc => ?_) (fun hc => ?_)
   | refine z_guardb (by decide) rfl rfl (fun hc => ?_) (fun hc => ?_))
   | (refine z_isnil ?_; first
   | refine z_keep1 ?_
   | refine z_list ?_
   | refine z_mixed ?_
   | refine z_mono0 ?_
   | refine z_mono1 (by decide) fun g => ?_
   | refine z_mono2 (by decide) (by decide) fun g g' => ?_
   | refine z_mixedx ?_
   | refine z_quiet ?_)
   | (refine z_isop ?_; first
   | refine o_boxa rfl rfl (by decide) fun g => ?_
   | refine o_alloca (e := 26) (vs := Cx.zero.cs) rfl (by kernel_rfl) (by decide) fun g => ?_
   | refine o_build (t := 26) (v := .agg Cx.zero.cs.toArray) rfl (fun _ => by kernel_rfl) (by decide) ?_
   | refine o_build (t := 32) (v := .agg (boCs fun _ => false).toArray) rfl (fun _ => by kernel_rfl) (by decide) ?_
   | (refine z_isbin ?_; first
   | (refine z_isb .add ?_; first
   | refine o_add rfl rfl (by omega) (by omega) (by decide) ?_
   | refine o_addw rfl rfl (by decide) ?_)
   | (refine z_isb .neq ?_; first
   | refine o_ne rfl rfl (by decide) ?_
   | refine o_bne tabOk rfl rfl rfl (by decide) ?_
   | refine o_pne tabOk rfl rfl (by decide) ?_)
   | (refine z_isb .leq ?_; first
   | refine o_le rfl rfl (by decide) ?_))
   | (refine z_isload ?_; first
   | refine o_loadp tabOk rfl rfl rfl 0 rfl (cx_len _) (rf_c _) (by decide) ?_
   | refine o_loadp tabOk rfl rfl rfl 1 rfl (cx_len _) (rf_c _) (by decide) ?_
   | refine o_loadp tabOk rfl rfl rfl 2 rfl (cx_len _) (rf_c _) (by decide) ?_
   | (refine z_ld1 tabOk rfl rfl ?_; first
   | refine o_loadm tabOk rfl rfl rfl (by repeat' (first | exact List.mem_cons_self | apply List.mem_cons_of_mem)) (by first | exact rf_g _ (by omega) | exact rf_h _ (by omega) | exact rf_b _ | exact cx_pc _ | exact cx_r _ (by omega) | rfl) (by decide) ?_
   | refine o_loads tabOk (by first | assumption | exact Rds.cons _ (by assumption) | exact Rds.cons _ (Rds.cons _ (by assumption)) | exact own_rds 0 rfl | exact own_rds 1 rfl | exact own_rds 2 rfl) rfl rfl rfl (by first | exact rf_g _ (by omega) | exact rf_h _ (by omega) | exact rf_b _ | exact cx_pc _ | exact cx_r _ (by omega) | rfl) (by decide) ?_)
   | (refine z_ldw tabOk rfl rfl ?_; first
   | refine o_loadwm tabOk rfl rfl rfl (by repeat' (first | exact List.mem_cons_self | apply List.mem_cons_of_mem)) (by first | exact rf_len _ | exact cx_len _ | exact bo_len _ | (simp only [rf_len, cx_len, bo_len]) | rfl) (by decide) ?_))
   | (refine z_isstore ?_; first
   | (refine o_storew_at rfl 0 tabOk rfl rfl rfl rfl (cx_len _) (cx_one _) (by rw [rf_len, cx_len]; decide) (rf_set_c _ _) ?_)
   | (refine o_storew_at rfl 1 tabOk rfl rfl rfl rfl (cx_len _) (cx_one _) (by rw [rf_len, cx_len]; decide) (rf_set_c _ _) ?_)
   | (refine o_storew_at rfl 2 tabOk rfl rfl rfl rfl (cx_len _) (cx_one _) (by rw [rf_len, cx_len]; decide) (rf_set_c _ _) ?_)
   | (refine o_storew_at rfl 2 tabOk rfl rfl rfl rfl (bo_len _) (bo_one _) (by rw [rf_len, bo_len]; decide) (rf_set_gs _ _) ?_)
   | refine o_storebk 0 tabOk rfl rfl rfl rfl (by first | exact rf_len _ | exact cx_len _ | exact bo_len _ | (simp only [rf_len, cx_len, bo_len]) | rfl) (by first | exact rf_one _ | exact cx_one _ | exact bo_one _ | rfl) (by first | exact rf_len _ | exact cx_len _ | exact bo_len _ | (simp only [rf_len, cx_len, bo_len]) | rfl) ?_
   | (refine z_stw rfl ?_; first
   | ((refine z_sti 0 rfl rfl ?_; refine o_storeb0 rfl tabOk rfl rfl rfl (by first | exact rf_len _ | exact cx_len _ | exact bo_len _ | (simp only [rf_len, cx_len, bo_len]) | rfl) (by first | exact rf_one _ | exact cx_one _ | exact bo_one _ | rfl) (by first | exact rf_len _ | exact cx_len _ | exact bo_len _ | (simp only [rf_len, cx_len, bo_len]) | rfl) ?_))
   | ((refine z_sti 1 rfl rfl ?_; refine o_storeb1 rfl tabOk rfl rfl rfl (by first | exact rf_len _ | exact cx_len _ | exact bo_len _ | (simp only [rf_len, cx_len, bo_len]) | rfl) (by first | exact rf_one _ | exact cx_one _ | exact bo_one _ | rfl) (by first | exact rf_len _ | exact cx_len _ | exact bo_len _ | (simp only [rf_len, cx_len, bo_len]) | rfl) ?_))
   | ((refine z_sti 2 rfl rfl ?_; refine o_storeb2 rfl tabOk rfl rfl rfl (by first | exact rf_len _ | exact cx_len _ | exact bo_len _ | (simp only [rf_len, cx_len, bo_len]) | rfl) (by first | exact rf_one _ | exact cx_one _ | exact bo_one _ | rfl) (by first | exact rf_len _ | exact cx_len _ | exact bo_len _ | (simp only [rf_len, cx_len, bo_len]) | rfl) ?_))
   | ((refine z_sti 3 rfl rfl ?_; refine o_storeb3 rfl tabOk rfl rfl rfl (by first | exact rf_len _ | exact cx_len _ | exact bo_len _ | (simp only [rf_len, cx_len, bo_len]) | rfl) (by first | exact rf_one _ | exact cx_one _ | exact bo_one _ | rfl) (by first | exact rf_len _ | exact cx_len _ | exact bo_len _ | (simp only [rf_len, cx_len, bo_len]) | rfl) ?_))
   | ((refine z_sti 4 rfl rfl ?_; refine o_storeb4 rfl tabOk rfl rfl rfl (by first | exact rf_len _ | exact cx_len _ | exact bo_len _ | (simp only [rf_len, cx_len, bo_len]) | rfl) (by first | exact rf_one _ | exact cx_one _ | exact bo_one _ | rfl) (by first | exact rf_len _ | exact cx_len _ | exact bo_len _ | (simp only [rf_len, cx_len, bo_len]) | rfl) ?_))
   | ((refine z_sti 5 rfl rfl ?_; refine o_storeb5 rfl tabOk rfl rfl rfl (by first | exact rf_len _ | exact cx_len _ | exact bo_len _ | (simp only [rf_len, cx_len, bo_len]) | rfl) (by first | exact rf_one _ | exact cx_one _ | exact bo_one _ | rfl) (by first | exact rf_len _ | exact cx_len _ | exact bo_len _ | (simp only [rf_len, cx_len, bo_len]) | rfl) ?_))
   | ((refine z_sti 6 rfl rfl ?_; refine o_storeb6 rfl tabOk rfl rfl rfl (by first | exact rf_len _ | exact cx_len _ | exact bo_len _ | (simp only [rf_len, cx_len, bo_len]) | rfl) (by first | exact rf_one _ | exact cx_one _ | exact bo_one _ | rfl) (by first | exact rf_len _ | exact cx_len _ | exact bo_len _ | (simp only [rf_len, cx_len, bo_len]) | rfl) ?_)))
   | (refine z_st1 rfl rfl ?_; first
   | refine o_store rfl tabOk rfl rfl rfl rfl rfl (by first | exact rf_g _ (by omega) | exact rf_h _ (by omega) | exact rf_b _ | exact cx_pc _ | exact cx_r _ (by omega) | rfl) (by first | exact rf_set_g _ (by omega) _ | exact rf_set_h _ (by omega) _ | exact rf_set_b _ _ | exact cx_set_pc _ _ | exact cx_set_r _ (by omega) _ | rfl) ?_
   | ((refine z_sti 1 rfl rfl ?_; refine o_store1 rfl tabOk rfl rfl rfl rfl rfl (by first | exact rf_g _ (by omega) | exact rf_h _ (by omega) | exact rf_b _ | exact cx_pc _ | exact cx_r _ (by omega) | rfl) (by first | exact rf_set_g _ (by omega) _ | exact rf_set_h _ (by omega) _ | exact rf_set_b _ _ | exact cx_set_pc _ _ | exact cx_set_r _ (by omega) _ | rfl) ?_))
   | ((refine z_sti 2 rfl rfl ?_; refine o_store2 rfl tabOk rfl rfl rfl rfl rfl (by first | exact rf_g _ (by omega) | exact rf_h _ (by omega) | exact rf_b _ | exact cx_pc _ | exact cx_r _ (by omega) | rfl) (by first | exact rf_set_g _ (by omega) _ | exact rf_set_h _ (by omega) _ | exact rf_set_b _ _ | exact cx_set_pc _ _ | exact cx_set_r _ (by omega) _ | rfl) ?_))
   | ((refine z_sti 3 rfl rfl ?_; refine o_store3 rfl tabOk rfl rfl rfl rfl rfl (by first | exact rf_g _ (by omega) | exact rf_h _ (by omega) | exact rf_b _ | exact cx_pc _ | exact cx_r _ (by omega) | rfl) (by first | exact rf_set_g _ (by omega) _ | exact rf_set_h _ (by omega) _ | exact rf_set_b _ _ | exact cx_set_pc _ _ | exact cx_set_r _ (by omega) _ | rfl) ?_))
   | ((refine z_sti 4 rfl rfl ?_; refine o_store4 rfl tabOk rfl rfl rfl rfl rfl (by first | exact rf_g _ (by omega) | exact rf_h _ (by omega) | exact rf_b _ | exact cx_pc _ | exact cx_r _ (by omega) | rfl) (by first | exact rf_set_g _ (by omega) _ | exact rf_set_h _ (by omega) _ | exact rf_set_b _ _ | exact cx_set_pc _ _ | exact cx_set_r _ (by omega) _ | rfl) ?_))
   | ((refine z_sti 5 rfl rfl ?_; refine o_store5 rfl tabOk rfl rfl rfl rfl rfl (by first | exact rf_g _ (by omega) | exact rf_h _ (by omega) | exact rf_b _ | exact cx_pc _ | exact cx_r _ (by omega) | rfl) (by first | exact rf_set_g _ (by omega) _ | exact rf_set_h _ (by omega) _ | exact rf_set_b _ _ | exact cx_set_pc _ _ | exact cx_set_r _ (by omega) _ | rfl) ?_))
   | ((refine z_sti 6 rfl rfl ?_; refine o_store6 rfl tabOk rfl rfl rfl rfl rfl (by first | exact rf_g _ (by omega) | exact rf_h _ (by omega) | exact rf_b _ | exact cx_pc _ | exact cx_r _ (by omega) | rfl) (by first | exact rf_set_g _ (by omega) _ | exact rf_set_h _ (by omega) _ | exact rf_set_b _ _ | exact cx_set_pc _ _ | exact cx_set_r _ (by omega) _ | rfl) ?_))))
   | (refine z_ispick ?_; first
   | (refine o_pick1 rfl (by first | with_reducible rfl | with_reducible assumption | ((with_reducible refine decide_eq_true ?_); first | with_reducible rfl | with_reducible assumption | omega)) rfl (by decide) ?_)
   | (refine o_pick0 rfl (by first | with_reducible rfl | with_reducible assumption | ((with_reducible refine decide_eq_false ?_); first | with_reducible assumption | omega)) rfl (by decide) ?_)
   | (refine o_pick1 rfl (by first | (simp only [Bool.not_eq_true', decide_eq_false_iff_not]; omega) | (with_reducible assumption) | (rw [decide_eq_false] <;> (first | omega | with_reducible rfl)) | (rw [decide_eq_true] <;> (first | omega | with_reducible rfl)) | (simp; done) | (simp; omega)) rfl (by decide) ?_)
   | (refine o_pick0 rfl (by first | (simp only [Bool.not_eq_false', decide_eq_true_eq]; omega) | (with_reducible assumption) | (rw [decide_eq_false] <;> (first | omega | with_reducible rfl)) | (rw [decide_eq_true] <;> (first | omega | with_reducible rfl)) | (simp; done) | (simp; omega)) rfl (by decide) ?_))
   | (refine z_isix ?_; first
   | refine o_index0 tabOk rfl rfl rfl rfl (by omega) (by omega) (by decide) ?_
   | refine o_index1 tabOk rfl rfl rfl rfl (by omega) (by omega) (by decide) ?_
   | refine o_indexsk tabOk rfl rfl rfl rfl (by omega) (by omega) (by decide) ?_
   | refine o_indexs1 tabOk (by first | assumption) rfl rfl rfl rfl (by omega) (by omega) (by decide) ?_)
   | refine o_move rfl (by decide) ?_
   | refine o_assign rfl (by decide) ?_
   | refine o_nil rfl (by decide) ?_
   | refine o_extract rfl rfl (by decide) ?_
   | refine o_not rfl (by decide) ?_
   | refine o_field0 tabOk rfl rfl rfl rfl rfl (by decide) ?_
   | refine o_field tabOk rfl rfl rfl rfl rfl (by decide) ?_
   | refine o_conv tabOk rfl rfl rfl (by decide) ?_))
  refine Hold.go ?_
  by_cases h9 : k < n
  · have eg : (!r.g k.toNat) = true := by rw [hall k hk.1 h9]; rfl
    clear hall
    repeat' (first
     | (refine s_is ?_; first
     | (refine s_isagain ?_; first
     | exact c_again (k + 1) ⟨by omega, by omega⟩ (by omega) ⟨rfl, rfl, rfl, rfl, trivial⟩ (fun w h => h))
     | (refine s_isw ?_; first
     | refine c_seq ?_
     | refine c_block ?_
     | refine c_region ?_
     | refine c_mixed mixed (by kernel_rfl) ?_
     | refine c_skip ?_
     | refine c_ret ?_
     | refine c_exit ?_
     | (refine s_iscond ?_; first
     | (refine c_true rfl (by first | with_reducible rfl | with_reducible assumption | ((with_reducible refine decide_eq_true ?_); first | with_reducible rfl | with_reducible assumption | omega)) ?_)
     | (refine c_false rfl (by first | with_reducible rfl | with_reducible assumption | ((with_reducible refine decide_eq_false ?_); first | with_reducible assumption | omega)) ?_)
     | (refine c_true rfl (by first | (simp only [Bool.not_eq_true', decide_eq_false_iff_not]; omega) | (with_reducible assumption) | (rw [decide_eq_false] <;> (first | omega | with_reducible rfl)) | (rw [decide_eq_true] <;> (first | omega | with_reducible rfl)) | (simp; done) | (simp; omega)) ?_)
     | (refine c_false rfl (by first | (simp only [Bool.not_eq_false', decide_eq_true_eq]; omega) | (with_reducible assumption) | (rw [decide_eq_false] <;> (first | omega | with_reducible rfl)) | (rw [decide_eq_true] <;> (first | omega | with_reducible rfl)) | (simp; done) | (simp; omega)) ?_)
     | refine c_cond rfl (fun hc => ?_) (fun hc => ?_)
     | refine c_condb rfl (fun hc => ?_) (fun hc => ?_)))
     | refine x_then ?_
     | refine x_then_ret ?_
     | refine x_then_exit ?_
     | refine x_block _ ?_
     | refine x_block_ret _ ?_
     | refine x_block_exit _ ?_
     | refine x_block_past (by decide) ?_
     | refine z_tailm ?_)
     | (refine z_isg0 ?_; first
     | refine z_skipu (by decide) rfl rfl ?_
     | (refine z_want0 rfl rfl (by first | with_reducible rfl | with_reducible assumption | ((with_reducible refine decide_eq_false ?_); first | with_reducible assumption | omega)) ?_)
     | (refine z_skip0 (by decide) rfl rfl (by first | with_reducible rfl | with_reducible assumption | ((with_reducible refine decide_eq_true ?_); first | with_reducible rfl | with_reducible assumption | omega)) ?_)
     | (refine z_want0 rfl rfl (by first | (simp only [Bool.not_eq_false', decide_eq_true_eq]; omega) | (with_reducible assumption) | (rw [decide_eq_false] <;> (first | omega | with_reducible rfl)) | (rw [decide_eq_true] <;> (first | omega | with_reducible rfl)) | (simp; done) | (simp; omega)) ?_)
     | (refine z_skip0 (by decide) rfl rfl (by first | (simp only [Bool.not_eq_true', decide_eq_false_iff_not]; omega) | (with_reducible assumption) | (rw [decide_eq_false] <;> (first | omega | with_reducible rfl)) | (rw [decide_eq_true] <;> (first | omega | with_reducible rfl)) | (simp; done) | (simp; omega)) ?_)
     | refine z_guard0 (by decide) rfl rfl (fun hc => ?_) (fun hc => ?_)
     | refine z_guardb (by decide) rfl rfl (fun hc => ?_) (fun hc => ?_))
     | (refine z_isnil ?_; first
     | refine z_keep1 ?_
     | refine z_list ?_
     | refine z_mixed ?_
     | refine z_mono0 ?_
     | refine z_mono1 (by decide) fun g => ?_
     | refine z_mono2 (by decide) (by decide) fun g g' => ?_
     | refine z_mixedx ?_
     | refine z_quiet ?_)
     | (refine z_isop ?_; first
     | refine o_boxa rfl rfl (by decide) fun g => ?_
     | refine o_alloca (e := 26) (vs := Cx.zero.cs) rfl (by kernel_rfl) (by decide) fun g => ?_
     | refine o_build (t := 26) (v := .agg Cx.zero.cs.toArray) rfl (fun _ => by kernel_rfl) (by decide) ?_
     | refine o_build (t := 32) (v := .agg (boCs fun _ => false).toArray) rfl (fun _ => by kernel_rfl) (by decide) ?_
     | (refine z_isbin ?_; first
     | (refine z_isb .add ?_; first
     | refine o_add rfl rfl (by omega) (by omega) (by decide) ?_
     | refine o_addw rfl rfl (by decide) ?_)
     | (refine z_isb .neq ?_; first
     | refine o_ne rfl rfl (by decide) ?_
     | refine o_bne tabOk rfl rfl rfl (by decide) ?_
     | refine o_pne tabOk rfl rfl (by decide) ?_)
     | (refine z_isb .leq ?_; first
     | refine o_le rfl rfl (by decide) ?_))
     | (refine z_isload ?_; first
     | refine o_loadp tabOk rfl rfl rfl 0 rfl (cx_len _) (rf_c _) (by decide) ?_
     | refine o_loadp tabOk rfl rfl rfl 1 rfl (cx_len _) (rf_c _) (by decide) ?_
     | refine o_loadp tabOk rfl rfl rfl 2 rfl (cx_len _) (rf_c _) (by decide) ?_
     | (refine z_ld1 tabOk rfl rfl ?_; first
     | refine o_loadm tabOk rfl rfl rfl (by repeat' (first | exact List.mem_cons_self | apply List.mem_cons_of_mem)) (by first | exact rf_g _ (by omega) | exact rf_h _ (by omega) | exact rf_b _ | exact cx_pc _ | exact cx_r _ (by omega) | rfl) (by decide) ?_
     | refine o_loads tabOk (by first | assumption | exact Rds.cons _ (by assumption) | exact Rds.cons _ (Rds.cons _ (by assumption)) | exact own_rds 0 rfl | exact own_rds 1 rfl | exact own_rds 2 rfl) rfl rfl rfl (by first | exact rf_g _ (by omega) | exact rf_h _ (by omega) | exact rf_b _ | exact cx_pc _ | exact cx_r _ (by omega) | rfl) (by decide) ?_)
     | (refine z_ldw tabOk rfl rfl ?_; first
     | refine o_loadwm tabOk rfl rfl rfl (by repeat' (first | exact List.mem_cons_self | apply List.mem_cons_of_mem)) (by first | exact rf_len _ | exact cx_len _ | exact bo_len _ | (simp only [rf_len, cx_len, bo_len]) | rfl) (by decide) ?_))
     | (refine z_isstore ?_; first
     | (refine o_storew_at rfl 0 tabOk rfl rfl rfl rfl (cx_len _) (cx_one _) (by rw [rf_len, cx_len]; decide) (rf_set_c _ _) ?_)
     | (refine o_storew_at rfl 1 tabOk rfl rfl rfl rfl (cx_len _) (cx_one _) (by rw [rf_len, cx_len]; decide) (rf_set_c _ _) ?_)
     | (refine o_storew_at rfl 2 tabOk rfl rfl rfl rfl (cx_len _) (cx_one _) (by rw [rf_len, cx_len]; decide) (rf_set_c _ _) ?_)
     | (refine o_storew_at rfl 2 tabOk rfl rfl rfl rfl (bo_len _) (bo_one _) (by rw [rf_len, bo_len]; decide) (rf_set_gs _ _) ?_)
     | refine o_storebk 0 tabOk rfl rfl rfl rfl (by first | exact rf_len _ | exact cx_len _ | exact bo_len _ | (simp only [rf_len, cx_len, bo_len]) | rfl) (by first | exact rf_one _ | exact cx_one _ | exact bo_one _ | rfl) (by first | exact rf_len _ | exact cx_len _ | exact bo_len _ | (simp only [rf_len, cx_len, bo_len]) | rfl) ?_
     | (refine z_stw rfl ?_; first
     | ((refine z_sti 0 rfl rfl ?_; refine o_storeb0 rfl tabOk rfl rfl rfl (by first | exact rf_len _ | exact cx_len _ | exact bo_len _ | (simp only [rf_len, cx_len, bo_len]) | rfl) (by first | exact rf_one _ | exact cx_one _ | exact bo_one _ | rfl) (by first | exact rf_len _ | exact cx_len _ | exact bo_len _ | (simp only [rf_len, cx_len, bo_len]) | rfl) ?_))
     | ((refine z_sti 1 rfl rfl ?_; refine o_storeb1 rfl tabOk rfl rfl rfl (by first | exact rf_len _ | exact cx_len _ | exact bo_len _ | (simp only [rf_len, cx_len, bo_len]) | rfl) (by first | exact rf_one _ | exact cx_one _ | exact bo_one _ | rfl) (by first | exact rf_len _ | exact cx_len _ | exact bo_len _ | (simp only [rf_len, cx_len, bo_len]) | rfl) ?_))
     | ((refine z_sti 2 rfl rfl ?_; refine o_storeb2 rfl tabOk rfl rfl rfl (by first | exact rf_len _ | exact cx_len _ | exact bo_len _ | (simp only [rf_len, cx_len, bo_len]) | rfl) (by first | exact rf_one _ | exact cx_one _ | exact bo_one _ | rfl) (by first | exact rf_len _ | exact cx_len _ | exact bo_len _ | (simp only [rf_len, cx_len, bo_len]) | rfl) ?_))
     | ((refine z_sti 3 rfl rfl ?_; refine o_storeb3 rfl tabOk rfl rfl rfl (by first | exact rf_len _ | exact cx_len _ | exact bo_len _ | (simp only [rf_len, cx_len, bo_len]) | rfl) (by first | exact rf_one _ | exact cx_one _ | exact bo_one _ | rfl) (by first | exact rf_len _ | exact cx_len _ | exact bo_len _ | (simp only [rf_len, cx_len, bo_len]) | rfl) ?_))
     | ((refine z_sti 4 rfl rfl ?_; refine o_storeb4 rfl tabOk rfl rfl rfl (by first | exact rf_len _ | exact cx_len _ | exact bo_len _ | (simp only [rf_len, cx_len, bo_len]) | rfl) (by first | exact rf_one _ | exact cx_one _ | exact bo_one _ | rfl) (by first | exact rf_len _ | exact cx_len _ | exact bo_len _ | (simp only [rf_len, cx_len, bo_len]) | rfl) ?_))
     | ((refine z_sti 5 rfl rfl ?_; refine o_storeb5 rfl tabOk rfl rfl rfl (by first | exact rf_len _ | exact cx_len _ | exact bo_len _ | (simp only [rf_len, cx_len, bo_len]) | rfl) (by first | exact rf_one _ | exact cx_one _ | exact bo_one _ | rfl) (by first | exact rf_len _ | exact cx_len _ | exact bo_len _ | (simp only [rf_len, cx_len, bo_len]) | rfl) ?_))
     | ((refine z_sti 6 rfl rfl ?_; refine o_storeb6 rfl tabOk rfl rfl rfl (by first | exact rf_len _ | exact cx_len _ | exact bo_len _ | (simp only [rf_len, cx_len, bo_len]) | rfl) (by first | exact rf_one _ | exact cx_one _ | exact bo_one _ | rfl) (by first | exact rf_len _ | exact cx_len _ | exact bo_len _ | (simp only [rf_len, cx_len, bo_len]) | rfl) ?_)))
     | (refine z_st1 rfl rfl ?_; first
     | refine o_store rfl tabOk rfl rfl rfl rfl rfl (by first | exact rf_g _ (by omega) | exact rf_h _ (by omega) | exact rf_b _ | exact cx_pc _ | exact cx_r _ (by omega) | rfl) (by first | exact rf_set_g _ (by omega) _ | exact rf_set_h _ (by omega) _ | exact rf_set_b _ _ | exact cx_set_pc _ _ | exact cx_set_r _ (by omega) _ | rfl) ?_
     | ((refine z_sti 1 rfl rfl ?_; refine o_store1 rfl tabOk rfl rfl rfl rfl rfl (by first | exact rf_g _ (by omega) | exact rf_h _ (by omega) | exact rf_b _ | exact cx_pc _ | exact cx_r _ (by omega) | rfl) (by first | exact rf_set_g _ (by omega) _ | exact rf_set_h _ (by omega) _ | exact rf_set_b _ _ | exact cx_set_pc _ _ | exact cx_set_r _ (by omega) _ | rfl) ?_))
     | ((refine z_sti 2 rfl rfl ?_; refine o_store2 rfl tabOk rfl rfl rfl rfl rfl (by first | exact rf_g _ (by omega) | exact rf_h _ (by omega) | exact rf_b _ | exact cx_pc _ | exact cx_r _ (by omega) | rfl) (by first | exact rf_set_g _ (by omega) _ | exact rf_set_h _ (by omega) _ | exact rf_set_b _ _ | exact cx_set_pc _ _ | exact cx_set_r _ (by omega) _ | rfl) ?_))
     | ((refine z_sti 3 rfl rfl ?_; refine o_store3 rfl tabOk rfl rfl rfl rfl rfl (by first | exact rf_g _ (by omega) | exact rf_h _ (by omega) | exact rf_b _ | exact cx_pc _ | exact cx_r _ (by omega) | rfl) (by first | exact rf_set_g _ (by omega) _ | exact rf_set_h _ (by omega) _ | exact rf_set_b _ _ | exact cx_set_pc _ _ | exact cx_set_r _ (by omega) _ | rfl) ?_))
     | ((refine z_sti 4 rfl rfl ?_; refine o_store4 rfl tabOk rfl rfl rfl rfl rfl (by first | exact rf_g _ (by omega) | exact rf_h _ (by omega) | exact rf_b _ | exact cx_pc _ | exact cx_r _ (by omega) | rfl) (by first | exact rf_set_g _ (by omega) _ | exact rf_set_h _ (by omega) _ | exact rf_set_b _ _ | exact cx_set_pc _ _ | exact cx_set_r _ (by omega) _ | rfl) ?_))
     | ((refine z_sti 5 rfl rfl ?_; refine o_store5 rfl tabOk rfl rfl rfl rfl rfl (by first | exact rf_g _ (by omega) | exact rf_h _ (by omega) | exact rf_b _ | exact cx_pc _ | exact cx_r _ (by omega) | rfl) (by first | exact rf_set_g _ (by omega) _ | exact rf_set_h _ (by omega) _ | exact rf_set_b _ _ | exact cx_set_pc _ _ | exact cx_set_r _ (by omega) _ | rfl) ?_))
     | ((refine z_sti 6 rfl rfl ?_; refine o_store6 rfl tabOk rfl rfl rfl rfl rfl (by first | exact rf_g _ (by omega) | exact rf_h _ (by omega) | exact rf_b _ | exact cx_pc _ | exact cx_r _ (by omega) | rfl) (by first | exact rf_set_g _ (by omega) _ | exact rf_set_h _ (by omega) _ | exact rf_set_b _ _ | exact cx_set_pc _ _ | exact cx_set_r _ (by omega) _ | rfl) ?_))))
     | (refine z_ispick ?_; first
     | (refine o_pick1 rfl (by first | with_reducible rfl | with_reducible assumption | ((with_reducible refine decide_eq_true ?_); first | with_reducible rfl | with_reducible assumption | omega)) rfl (by decide) ?_)
     | (refine o_pick0 rfl (by first | with_reducible rfl | with_reducible assumption | ((with_reducible refine decide_eq_false ?_); first | with_reducible assumption | omega)) rfl (by decide) ?_)
     | (refine o_pick1 rfl (by first | (simp only [Bool.not_eq_true', decide_eq_false_iff_not]; omega) | (with_reducible assumption) | (rw [decide_eq_false] <;> (first | omega | with_reducible rfl)) | (rw [decide_eq_true] <;> (first | omega | with_reducible rfl)) | (simp; done) | (simp; omega)) rfl (by decide) ?_)
     | (refine o_pick0 rfl (by first | (simp only [Bool.not_eq_false', decide_eq_true_eq]; omega) | (with_reducible assumption) | (rw [decide_eq_false] <;> (first | omega | with_reducible rfl)) | (rw [decide_eq_true] <;> (first | omega | with_reducible rfl)) | (simp; done) | (simp; omega)) rfl (by decide) ?_))
     | (refine z_isix ?_; first
     | refine o_index0 tabOk rfl rfl rfl rfl (by omega) (by omega) (by decide) ?_
     | refine o_index1 tabOk rfl rfl rfl rfl (by omega) (by omega) (by decide) ?_
     | refine o_indexsk tabOk rfl rfl rfl rfl (by omega) (by omega) (by decide) ?_
     | refine o_indexs1 tabOk (by first | assumption) rfl rfl rfl rfl (by omega) (by omega) (by decide) ?_)
     | refine o_move rfl (by decide) ?_
     | refine o_assign rfl (by decide) ?_
     | refine o_nil rfl (by decide) ?_
     | refine o_extract rfl rfl (by decide) ?_
     | refine o_not rfl (by decide) ?_
     | refine o_field0 tabOk rfl rfl rfl rfl rfl (by decide) ?_
     | refine o_field tabOk rfl rfl rfl rfl rfl (by decide) ?_
     | refine o_conv tabOk rfl rfl rfl (by decide) ?_))
  · obtain rfl : k = n := by omega
    have eg : (!r.g k.toNat) = false := by rw [hg]; rfl
    clear hall
    repeat' (first
     | (refine s_is ?_; first
     | refine c_keep1 (id := 14) mixed (by kernel_rfl) ?_
     | (refine s_isret ?_; first
     | exact f_r3 rfl (res_t rfl) (res_t rfl) (res_c tabOk rfl rfl rfl 0 rfl (cx_len _)) () trivial rfl (fun w h => h.sub (List.sublist_append_right [_, _] _)))
     | (refine s_isw ?_; first
     | refine c_seq ?_
     | refine c_block ?_
     | refine c_region ?_
     | refine c_mixed mixed (by kernel_rfl) ?_
     | refine c_skip ?_
     | refine c_ret ?_
     | refine c_exit ?_
     | (refine s_iscond ?_; first
     | (refine c_true rfl (by first | with_reducible rfl | with_reducible assumption | ((with_reducible refine decide_eq_true ?_); first | with_reducible rfl | with_reducible assumption | omega)) ?_)
     | (refine c_false rfl (by first | with_reducible rfl | with_reducible assumption | ((with_reducible refine decide_eq_false ?_); first | with_reducible assumption | omega)) ?_)
     | (refine c_true rfl (by first | (simp only [Bool.not_eq_true', decide_eq_false_iff_not]; omega) | (with_reducible assumption) | (rw [decide_eq_false] <;> (first | omega | with_reducible rfl)) | (rw [decide_eq_true] <;> (first | omega | with_reducible rfl)) | (simp; done) | (simp; omega)) ?_)
     | (refine c_false rfl (by first | (simp only [Bool.not_eq_false', decide_eq_true_eq]; omega) | (with_reducible assumption) | (rw [decide_eq_false] <;> (first | omega | with_reducible rfl)) | (rw [decide_eq_true] <;> (first | omega | with_reducible rfl)) | (simp; done) | (simp; omega)) ?_)
     | refine c_cond rfl (fun hc => ?_) (fun hc => ?_)
     | refine c_condb rfl (fun hc => ?_) (fun hc => ?_)))
     | refine x_then ?_
     | refine x_then_ret ?_
     | refine x_then_exit ?_
     | refine x_block _ ?_
     | refine x_block_ret _ ?_
     | refine x_block_exit _ ?_
     | refine x_block_past (by decide) ?_
     | refine z_tailm ?_)
     | (refine z_isg0 ?_; first
     | refine z_skipu (by decide) rfl rfl ?_
     | (refine z_want0 rfl rfl (by first | with_reducible rfl | with_reducible assumption | ((with_reducible refine decide_eq_false ?_); first | with_reducible assumption | omega)) ?_)
     | (refine z_skip0 (by decide) rfl rfl (by first | with_reducible rfl | with_reducible assumption | ((with_reducible refine decide_eq_true ?_); first | with_reducible rfl | with_reducible assumption | omega)) ?_)
     | (refine z_want0 rfl rfl (by first | (simp only [Bool.not_eq_false', decide_eq_true_eq]; omega) | (with_reducible assumption) | (rw [decide_eq_false] <;> (first | omega | with_reducible rfl)) | (rw [decide_eq_true] <;> (first | omega | with_reducible rfl)) | (simp; done) | (simp; omega)) ?_)
     | (refine z_skip0 (by decide) rfl rfl (by first | (simp only [Bool.not_eq_true', decide_eq_false_iff_not]; omega) | (with_reducible assumption) | (rw [decide_eq_false] <;> (first | omega | with_reducible rfl)) | (rw [decide_eq_true] <;> (first | omega | with_reducible rfl)) | (simp; done) | (simp; omega)) ?_)
     | refine z_guard0 (by decide) rfl rfl (fun hc => ?_) (fun hc => ?_)
     | refine z_guardb (by decide) rfl rfl (fun hc => ?_) (fun hc => ?_))
     | (refine z_isnil ?_; first
     | refine z_keep1 ?_
     | refine z_list ?_
     | refine z_mixed ?_
     | refine z_mono0 ?_
     | refine z_mono1 (by decide) fun g => ?_
     | refine z_mono2 (by decide) (by decide) fun g g' => ?_
     | refine z_mixedx ?_
     | refine z_quiet ?_)
     | (refine z_isop ?_; first
     | refine o_boxa rfl rfl (by decide) fun g => ?_
     | refine o_alloca (e := 26) (vs := Cx.zero.cs) rfl (by kernel_rfl) (by decide) fun g => ?_
     | refine o_build (t := 26) (v := .agg Cx.zero.cs.toArray) rfl (fun _ => by kernel_rfl) (by decide) ?_
     | refine o_build (t := 32) (v := .agg (boCs fun _ => false).toArray) rfl (fun _ => by kernel_rfl) (by decide) ?_
     | (refine z_isbin ?_; first
     | (refine z_isb .add ?_; first
     | refine o_add rfl rfl (by omega) (by omega) (by decide) ?_
     | refine o_addw rfl rfl (by decide) ?_)
     | (refine z_isb .neq ?_; first
     | refine o_ne rfl rfl (by decide) ?_
     | refine o_bne tabOk rfl rfl rfl (by decide) ?_
     | refine o_pne tabOk rfl rfl (by decide) ?_)
     | (refine z_isb .leq ?_; first
     | refine o_le rfl rfl (by decide) ?_))
     | (refine z_isload ?_; first
     | refine o_loadp tabOk rfl rfl rfl 0 rfl (cx_len _) (rf_c _) (by decide) ?_
     | refine o_loadp tabOk rfl rfl rfl 1 rfl (cx_len _) (rf_c _) (by decide) ?_
     | refine o_loadp tabOk rfl rfl rfl 2 rfl (cx_len _) (rf_c _) (by decide) ?_
     | (refine z_ld1 tabOk rfl rfl ?_; first
     | refine o_loadm tabOk rfl rfl rfl (by repeat' (first | exact List.mem_cons_self | apply List.mem_cons_of_mem)) (by first | exact rf_g _ (by omega) | exact rf_h _ (by omega) | exact rf_b _ | exact cx_pc _ | exact cx_r _ (by omega) | rfl) (by decide) ?_
     | refine o_loads tabOk (by first | assumption | exact Rds.cons _ (by assumption) | exact Rds.cons _ (Rds.cons _ (by assumption)) | exact own_rds 0 rfl | exact own_rds 1 rfl | exact own_rds 2 rfl) rfl rfl rfl (by first | exact rf_g _ (by omega) | exact rf_h _ (by omega) | exact rf_b _ | exact cx_pc _ | exact cx_r _ (by omega) | rfl) (by decide) ?_)
     | (refine z_ldw tabOk rfl rfl ?_; first
     | refine o_loadwm tabOk rfl rfl rfl (by repeat' (first | exact List.mem_cons_self | apply List.mem_cons_of_mem)) (by first | exact rf_len _ | exact cx_len _ | exact bo_len _ | (simp only [rf_len, cx_len, bo_len]) | rfl) (by decide) ?_))
     | (refine z_isstore ?_; first
     | (refine o_storew_at rfl 0 tabOk rfl rfl rfl rfl (cx_len _) (cx_one _) (by rw [rf_len, cx_len]; decide) (rf_set_c _ _) ?_)
     | (refine o_storew_at rfl 1 tabOk rfl rfl rfl rfl (cx_len _) (cx_one _) (by rw [rf_len, cx_len]; decide) (rf_set_c _ _) ?_)
     | (refine o_storew_at rfl 2 tabOk rfl rfl rfl rfl (cx_len _) (cx_one _) (by rw [rf_len, cx_len]; decide) (rf_set_c _ _) ?_)
     | (refine o_storew_at rfl 2 tabOk rfl rfl rfl rfl (bo_len _) (bo_one _) (by rw [rf_len, bo_len]; decide) (rf_set_gs _ _) ?_)
     | refine o_storebk 0 tabOk rfl rfl rfl rfl (by first | exact rf_len _ | exact cx_len _ | exact bo_len _ | (simp only [rf_len, cx_len, bo_len]) | rfl) (by first | exact rf_one _ | exact cx_one _ | exact bo_one _ | rfl) (by first | exact rf_len _ | exact cx_len _ | exact bo_len _ | (simp only [rf_len, cx_len, bo_len]) | rfl) ?_
     | (refine z_stw rfl ?_; first
     | ((refine z_sti 0 rfl rfl ?_; refine o_storeb0 rfl tabOk rfl rfl rfl (by first | exact rf_len _ | exact cx_len _ | exact bo_len _ | (simp only [rf_len, cx_len, bo_len]) | rfl) (by first | exact rf_one _ | exact cx_one _ | exact bo_one _ | rfl) (by first | exact rf_len _ | exact cx_len _ | exact bo_len _ | (simp only [rf_len, cx_len, bo_len]) | rfl) ?_))
     | ((refine z_sti 1 rfl rfl ?_; refine o_storeb1 rfl tabOk rfl rfl rfl (by first | exact rf_len _ | exact cx_len _ | exact bo_len _ | (simp only [rf_len, cx_len, bo_len]) | rfl) (by first | exact rf_one _ | exact cx_one _ | exact bo_one _ | rfl) (by first | exact rf_len _ | exact cx_len _ | exact bo_len _ | (simp only [rf_len, cx_len, bo_len]) | rfl) ?_))
     | ((refine z_sti 2 rfl rfl ?_; refine o_storeb2 rfl tabOk rfl rfl rfl (by first | exact rf_len _ | exact cx_len _ | exact bo_len _ | (simp only [rf_len, cx_len, bo_len]) | rfl) (by first | exact rf_one _ | exact cx_one _ | exact bo_one _ | rfl) (by first | exact rf_len _ | exact cx_len _ | exact bo_len _ | (simp only [rf_len, cx_len, bo_len]) | rfl) ?_))
     | ((refine z_sti 3 rfl rfl ?_; refine o_storeb3 rfl tabOk rfl rfl rfl (by first | exact rf_len _ | exact cx_len _ | exact bo_len _ | (simp only [rf_len, cx_len, bo_len]) | rfl) (by first | exact rf_one _ | exact cx_one _ | exact bo_one _ | rfl) (by first | exact rf_len _ | exact cx_len _ | exact bo_len _ | (simp only [rf_len, cx_len, bo_len]) | rfl) ?_))
     | ((refine z_sti 4 rfl rfl ?_; refine o_storeb4 rfl tabOk rfl rfl rfl (by first | exact rf_len _ | exact cx_len _ | exact bo_len _ | (simp only [rf_len, cx_len, bo_len]) | rfl) (by first | exact rf_one _ | exact cx_one _ | exact bo_one _ | rfl) (by first | exact rf_len _ | exact cx_len _ | exact bo_len _ | (simp only [rf_len, cx_len, bo_len]) | rfl) ?_))
     | ((refine z_sti 5 rfl rfl ?_; refine o_storeb5 rfl tabOk rfl rfl rfl (by first | exact rf_len _ | exact cx_len _ | exact bo_len _ | (simp only [rf_len, cx_len, bo_len]) | rfl) (by first | exact rf_one _ | exact cx_one _ | exact bo_one _ | rfl) (by first | exact rf_len _ | exact cx_len _ | exact bo_len _ | (simp only [rf_len, cx_len, bo_len]) | rfl) ?_))
     | ((refine z_sti 6 rfl rfl ?_; refine o_storeb6 rfl tabOk rfl rfl rfl (by first | exact rf_len _ | exact cx_len _ | exact bo_len _ | (simp only [rf_len, cx_len, bo_len]) | rfl) (by first | exact rf_one _ | exact cx_one _ | exact bo_one _ | rfl) (by first | exact rf_len _ | exact cx_len _ | exact bo_len _ | (simp only [rf_len, cx_len, bo_len]) | rfl) ?_)))
     | (refine z_st1 rfl rfl ?_; first
     | refine o_store rfl tabOk rfl rfl rfl rfl rfl (by first | exact rf_g _ (by omega) | exact rf_h _ (by omega) | exact rf_b _ | exact cx_pc _ | exact cx_r _ (by omega) | rfl) (by first | exact rf_set_g _ (by omega) _ | exact rf_set_h _ (by omega) _ | exact rf_set_b _ _ | exact cx_set_pc _ _ | exact cx_set_r _ (by omega) _ | rfl) ?_
     | ((refine z_sti 1 rfl rfl ?_; refine o_store1 rfl tabOk rfl rfl rfl rfl rfl (by first | exact rf_g _ (by omega) | exact rf_h _ (by omega) | exact rf_b _ | exact cx_pc _ | exact cx_r _ (by omega) | rfl) (by first | exact rf_set_g _ (by omega) _ | exact rf_set_h _ (by omega) _ | exact rf_set_b _ _ | exact cx_set_pc _ _ | exact cx_set_r _ (by omega) _ | rfl) ?_))
     | ((refine z_sti 2 rfl rfl ?_; refine o_store2 rfl tabOk rfl rfl rfl rfl rfl (by first | exact rf_g _ (by omega) | exact rf_h _ (by omega) | exact rf_b _ | exact cx_pc _ | exact cx_r _ (by omega) | rfl) (by first | exact rf_set_g _ (by omega) _ | exact rf_set_h _ (by omega) _ | exact rf_set_b _ _ | exact cx_set_pc _ _ | exact cx_set_r _ (by omega) _ | rfl) ?_))
     | ((refine z_sti 3 rfl rfl ?_; refine o_store3 rfl tabOk rfl rfl rfl rfl rfl (by first | exact rf_g _ (by omega) | exact rf_h _ (by omega) | exact rf_b _ | exact cx_pc _ | exact cx_r _ (by omega) | rfl) (by first | exact rf_set_g _ (by omega) _ | exact rf_set_h _ (by omega) _ | exact rf_set_b _ _ | exact cx_set_pc _ _ | exact cx_set_r _ (by omega) _ | rfl) ?_))
     | ((refine z_sti 4 rfl rfl ?_; refine o_store4 rfl tabOk rfl rfl rfl rfl rfl (by first | exact rf_g _ (by omega) | exact rf_h _ (by omega) | exact rf_b _ | exact cx_pc _ | exact cx_r _ (by omega) | rfl) (by first | exact rf_set_g _ (by omega) _ | exact rf_set_h _ (by omega) _ | exact rf_set_b _ _ | exact cx_set_pc _ _ | exact cx_set_r _ (by omega) _ | rfl) ?_))
     | ((refine z_sti 5 rfl rfl ?_; refine o_store5 rfl tabOk rfl rfl rfl rfl rfl (by first | exact rf_g _ (by omega) | exact rf_h _ (by omega) | exact rf_b _ | exact cx_pc _ | exact cx_r _ (by omega) | rfl) (by first | exact rf_set_g _ (by omega) _ | exact rf_set_h _ (by omega) _ | exact rf_set_b _ _ | exact cx_set_pc _ _ | exact cx_set_r _ (by omega) _ | rfl) ?_))
     | ((refine z_sti 6 rfl rfl ?_; refine o_store6 rfl tabOk rfl rfl rfl rfl rfl (by first | exact rf_g _ (by omega) | exact rf_h _ (by omega) | exact rf_b _ | exact cx_pc _ | exact cx_r _ (by omega) | rfl) (by first | exact rf_set_g _ (by omega) _ | exact rf_set_h _ (by omega) _ | exact rf_set_b _ _ | exact cx_set_pc _ _ | exact cx_set_r _ (by omega) _ | rfl) ?_))))
     | (refine z_ispick ?_; first
     | (refine o_pick1 rfl (by first | with_reducible rfl | with_reducible assumption | ((with_reducible refine decide_eq_true ?_); first | with_reducible rfl | with_reducible assumption | omega)) rfl (by decide) ?_)
     | (refine o_pick0 rfl (by first | with_reducible rfl | with_reducible assumption | ((with_reducible refine decide_eq_false ?_); first | with_reducible assumption | omega)) rfl (by decide) ?_)
     | (refine o_pick1 rfl (by first | (simp only [Bool.not_eq_true', decide_eq_false_iff_not]; omega) | (with_reducible assumption) | (rw [decide_eq_false] <;> (first | omega | with_reducible rfl)) | (rw [decide_eq_true] <;> (first | omega | with_reducible rfl)) | (simp; done) | (simp; omega)) rfl (by decide) ?_)
     | (refine o_pick0 rfl (by first | (simp only [Bool.not_eq_false', decide_eq_true_eq]; omega) | (with_reducible assumption) | (rw [decide_eq_false] <;> (first | omega | with_reducible rfl)) | (rw [decide_eq_true] <;> (first | omega | with_reducible rfl)) | (simp; done) | (simp; omega)) rfl (by decide) ?_))
     | (refine z_isix ?_; first
     | refine o_index0 tabOk rfl rfl rfl rfl (by omega) (by omega) (by decide) ?_
     | refine o_index1 tabOk rfl rfl rfl rfl (by omega) (by omega) (by decide) ?_
     | refine o_indexsk tabOk rfl rfl rfl rfl (by omega) (by omega) (by decide) ?_
     | refine o_indexs1 tabOk (by first | assumption) rfl rfl rfl rfl (by omega) (by omega) (by decide) ?_)
     | refine o_move rfl (by decide) ?_
     | refine o_assign rfl (by decide) ?_
     | refine o_nil rfl (by decide) ?_
     | refine o_extract rfl rfl (by decide) ?_
     | refine o_not rfl (by decide) ?_
     | refine o_field0 tabOk rfl rfl rfl rfl rfl (by decide) ?_
     | refine o_field tabOk rfl rfl rfl rfl rfl (by decide) ?_
     | refine o_conv tabOk rfl rfl rfl (by decide) ?_))
set_option maxHeartbeats 8000000 in
theorem rnext_die (b : Nat) (r : Rf) (c : Cx) (n : Int) (h2 : 2 ≤ n) (h8 : n ≤ 8) (h1 : r.g 1 = false) (eb : r.b = false) (hall : ∀ j : Int, 2 ≤ j → j < n → r.g j.toNat = false) (hg : r.g n.toNat = true) (hh : r.h n.toNat = 0) (hn : n ≠ 8) : Does Tryd.prog 16 [.pointer (some ⟨b, 0, none⟩), .agg c.cs.toArray] [cells b 34 r.cs] (fun _ : Unit => True) (fun _ => .tuple #[.int .i64 1, .int .i64 n, .agg c.cs.toArray]) (fun _ => [cells b 34 ({ r with g := upd r.g n.toNat false } : Rf).cs]) := by
  intro w hw
  refine f_enter Tryd.func16 rfl Tryd.ntmps16 rfl hw ?_
  have e3 : decide (r.h n.toNat ≠ 0) = false := by simp [hh]
  repeat' (first
   | (refine s_is ?_; first
   | (refine s_isw ?_; first
   | (refine s_isloop ?_; first
   | ((rename_i g3; refine c_loop (X := Int) (fun k => 2 ≤ k ∧ k ≤ n) (fun k => [(0, .pointer (some ⟨b, 0, none⟩)), (3, .pointer (some ⟨g3, 0, none⟩)), (6, .pointer (some ⟨g, 0, none⟩)), (7, .int .i64 k)]) (fun k => [cells g 26 Cx.zero.cs, cells g3 26 c.cs, cells b 34 r.cs]) (fun k => (9 - k).toNat) 2 ⟨by decide, by omega⟩ ⟨rfl, rfl, rfl, rfl, trivial⟩ (fun w h => h) (fun k hk => ?_); refine hold ?_)))
   | refine c_seq ?_
   | refine c_block ?_
   | refine c_region ?_
   | refine c_mixed mixed (by kernel_rfl) ?_
   | refine c_skip ?_
   | refine c_ret ?_
   | refine c_exit ?_
   | (refine s_iscond ?_; first
   | (refine c_true rfl (by first | with_reducible rfl | with_reducible assumption | ((with_reducible refine decide_eq_true ?_); first | with_reducible rfl | with_reducible assumption | omega)) ?_)
   | (refine c_false rfl (by first | with_reducible rfl | with_reducible assumption | ((with_reducible refine decide_eq_false ?_); first | with_reducible assumption | omega)) ?_)
   | (refine c_true rfl (by first | (simp only [Bool.not_eq_true', decide_eq_false_iff_not]; omega) | (with_reducible assumption) | (rw [decide_eq_false] <;> (first | omega | with_reducible rfl)) | (rw [decide_eq_true] <;> (first | omega | with_reducible rfl)) | (simp; done) | (simp; omega)) ?_)
   | (refine c_false rfl (by first | (simp only [Bool.not_eq_false', decide_eq_true_eq]; omega) | (with_reducible assumption) | (rw [decide_eq_false] <;> (first | omega | with_reducible rfl)) | (rw [decide_eq_true] <;> (first | omega | with_reducible rfl)) | (simp; done) | (simp; omega)) ?_)
   | refine c_cond rfl (fun hc => ?_) (fun hc => ?_)
   | refine c_condb rfl (fun hc => ?_) (fun hc => ?_)))
   | refine x_then ?_
   | refine x_then_ret ?_
   | refine x_then_exit ?_
   | refine x_block _ ?_
   | refine x_block_ret _ ?_
   | refine x_block_exit _ ?_
   | refine x_block_past (by decide) ?_
   | refine z_tailm ?_)
   | (refine z_isg0 ?_; first
   | refine z_skipu (by decide) rfl rfl ?_
   | (refine z_want0 rfl rfl (by first | with_reducible rfl | with_reducible assumption | ((with_reducible refine decide_eq_false ?_); first | with_reducible assumption | omega)) ?_)
   | (refine z_skip0 (by decide) rfl rfl (by first | with_reducible rfl | with_reducible assumption | ((with_reducible refine decide_eq_true ?_); first | with_reducible rfl | with_reducible assumption | omega)) ?_)
   | (refine z_want0 rfl rfl (by first | (simp only [Bool.not_eq_false', decide_eq_true_eq]; omega) | (with_reducible assumption) | (rw [decide_eq_false] <;> (first | omega | with_reducible rfl)) | (rw [decide_eq_true] <;> (first | omega | with_reducible rfl)) | (simp; done) | (simp; omega)) ?_)
   | (refine z_skip0 (by decide) rfl rfl (by first | (simp only [Bool.not_eq_true', decide_eq_false_iff_not]; omega) | (with_reducible assumption) | (rw [decide_eq_false] <;> (first | omega | with_reducible rfl)) | (rw [decide_eq_true] <;> (first | omega | with_reducible rfl)) | (simp; done) | (simp; omega)) ?_)
   | refine z_guard0 (by decide) rfl rfl (fun hc => ?_) (fun hc => ?_)
   | refine z_guardb (by decide) rfl rfl (fun hc => ?_) (fun hc => ?_))
   | (refine z_isnil ?_; first
   | refine z_keep1 ?_
   | refine z_list ?_
   | refine z_mixed ?_
   | refine z_mono0 ?_
   | refine z_mono1 (by decide) fun g => ?_
   | refine z_mono2 (by decide) (by decide) fun g g' => ?_
   | refine z_mixedx ?_
   | refine z_quiet ?_)
   | (refine z_isop ?_; first
   | refine o_boxa rfl rfl (by decide) fun g => ?_
   | refine o_alloca (e := 26) (vs := Cx.zero.cs) rfl (by kernel_rfl) (by decide) fun g => ?_
   | refine o_build (t := 26) (v := .agg Cx.zero.cs.toArray) rfl (fun _ => by kernel_rfl) (by decide) ?_
   | refine o_build (t := 32) (v := .agg (boCs fun _ => false).toArray) rfl (fun _ => by kernel_rfl) (by decide) ?_
   | (refine z_isbin ?_; first
   | (refine z_isb .add ?_; first
   | refine o_add rfl rfl (by omega) (by omega) (by decide) ?_
   | refine o_addw rfl rfl (by decide) ?_)
   | (refine z_isb .neq ?_; first
   | refine o_ne rfl rfl (by decide) ?_
   | refine o_bne tabOk rfl rfl rfl (by decide) ?_
   | refine o_pne tabOk rfl rfl (by decide) ?_)
   | (refine z_isb .leq ?_; first
   | refine o_le rfl rfl (by decide) ?_))
   | (refine z_isload ?_; first
   | refine o_loadp tabOk rfl rfl rfl 0 rfl (cx_len _) (rf_c _) (by decide) ?_
   | refine o_loadp tabOk rfl rfl rfl 1 rfl (cx_len _) (rf_c _) (by decide) ?_
   | refine o_loadp tabOk rfl rfl rfl 2 rfl (cx_len _) (rf_c _) (by decide) ?_
   | (refine z_ld1 tabOk rfl rfl ?_; first
   | refine o_loadm tabOk rfl rfl rfl (by repeat' (first | exact List.mem_cons_self | apply List.mem_cons_of_mem)) (by first | exact rf_g _ (by omega) | exact rf_h _ (by omega) | exact rf_b _ | exact cx_pc _ | exact cx_r _ (by omega) | rfl) (by decide) ?_
   | refine o_loads tabOk (by first | assumption | exact Rds.cons _ (by assumption) | exact Rds.cons _ (Rds.cons _ (by assumption)) | exact own_rds 0 rfl | exact own_rds 1 rfl | exact own_rds 2 rfl) rfl rfl rfl (by first | exact rf_g _ (by omega) | exact rf_h _ (by omega) | exact rf_b _ | exact cx_pc _ | exact cx_r _ (by omega) | rfl) (by decide) ?_)
   | (refine z_ldw tabOk rfl rfl ?_; first
   | refine o_loadwm tabOk rfl rfl rfl (by repeat' (first | exact List.mem_cons_self | apply List.mem_cons_of_mem)) (by first | exact rf_len _ | exact cx_len _ | exact bo_len _ | (simp only [rf_len, cx_len, bo_len]) | rfl) (by decide) ?_))
   | (refine z_isstore ?_; first
   | (refine o_storew_at rfl 0 tabOk rfl rfl rfl rfl (cx_len _) (cx_one _) (by rw [rf_len, cx_len]; decide) (rf_set_c _ _) ?_)
   | (refine o_storew_at rfl 1 tabOk rfl rfl rfl rfl (cx_len _) (cx_one _) (by rw [rf_len, cx_len]; decide) (rf_set_c _ _) ?_)
   | (refine o_storew_at rfl 2 tabOk rfl rfl rfl rfl (cx_len _) (cx_one _) (by rw [rf_len, cx_len]; decide) (rf_set_c _ _) ?_)
   | (refine o_storew_at rfl 2 tabOk rfl rfl rfl rfl (bo_len _) (bo_one _) (by rw [rf_len, bo_len]; decide) (rf_set_gs _ _) ?_)
   | refine o_storebk 0 tabOk rfl rfl rfl rfl (by first | exact rf_len _ | exact cx_len _ | exact bo_len _ | (simp only [rf_len, cx_len, bo_len]) | rfl) (by first | exact rf_one _ | exact cx_one _ | exact bo_one _ | rfl) (by first | exact rf_len _ | exact cx_len _ | exact bo_len _ | (simp only [rf_len, cx_len, bo_len]) | rfl) ?_
   | (refine z_stw rfl ?_; first
   | ((refine z_sti 0 rfl rfl ?_; refine o_storeb0 rfl tabOk rfl rfl rfl (by first | exact rf_len _ | exact cx_len _ | exact bo_len _ | (simp only [rf_len, cx_len, bo_len]) | rfl) (by first | exact rf_one _ | exact cx_one _ | exact bo_one _ | rfl) (by first | exact rf_len _ | exact cx_len _ | exact bo_len _ | (simp only [rf_len, cx_len, bo_len]) | rfl) ?_))
   | ((refine z_sti 1 rfl rfl ?_; refine o_storeb1 rfl tabOk rfl rfl rfl (by first | exact rf_len _ | exact cx_len _ | exact bo_len _ | (simp only [rf_len, cx_len, bo_len]) | rfl) (by first | exact rf_one _ | exact cx_one _ | exact bo_one _ | rfl) (by first | exact rf_len _ | exact cx_len _ | exact bo_len _ | (simp only [rf_len, cx_len, bo_len]) | rfl) ?_))
   | ((refine z_sti 2 rfl rfl ?_; refine o_storeb2 rfl tabOk rfl rfl rfl (by first | exact rf_len _ | exact cx_len _ | exact bo_len _ | (simp only [rf_len, cx_len, bo_len]) | rfl) (by first | exact rf_one _ | exact cx_one _ | exact bo_one _ | rfl) (by first | exact rf_len _ | exact cx_len _ | exact bo_len _ | (simp only [rf_len, cx_len, bo_len]) | rfl) ?_))
   | ((refine z_sti 3 rfl rfl ?_; refine o_storeb3 rfl tabOk rfl rfl rfl (by first | exact rf_len _ | exact cx_len _ | exact bo_len _ | (simp only [rf_len, cx_len, bo_len]) | rfl) (by first | exact rf_one _ | exact cx_one _ | exact bo_one _ | rfl) (by first | exact rf_len _ | exact cx_len _ | exact bo_len _ | (simp only [rf_len, cx_len, bo_len]) | rfl) ?_))
   | ((refine z_sti 4 rfl rfl ?_; refine o_storeb4 rfl tabOk rfl rfl rfl (by first | exact rf_len _ | exact cx_len _ | exact bo_len _ | (simp only [rf_len, cx_len, bo_len]) | rfl) (by first | exact rf_one _ | exact cx_one _ | exact bo_one _ | rfl) (by first | exact rf_len _ | exact cx_len _ | exact bo_len _ | (simp only [rf_len, cx_len, bo_len]) | rfl) ?_))
   | ((refine z_sti 5 rfl rfl ?_; refine o_storeb5 rfl tabOk rfl rfl rfl (by first | exact rf_len _ | exact cx_len _ | exact bo_len _ | (simp only [rf_len, cx_len, bo_len]) | rfl) (by first | exact rf_one _ | exact cx_one _ | exact bo_one _ | rfl) (by first | exact rf_len _ | exact cx_len _ | exact bo_len _ | (simp only [rf_len, cx_len, bo_len]) | rfl) ?_))
   | ((refine z_sti 6 rfl rfl ?_; refine o_storeb6 rfl tabOk rfl rfl rfl (by first | exact rf_len _ | exact cx_len _ | exact bo_len _ | (simp only [rf_len, cx_len, bo_len]) | rfl) (by first | exact rf_one _ | exact cx_one _ | exact bo_one _ | rfl) (by first | exact rf_len _ | exact cx_len _ | exact bo_len _ | (simp only [rf_len, cx_len, bo_len]) | rfl) ?_)))
   | (refine z_st1 rfl rfl ?_; first
   | refine o_store rfl tabOk rfl rfl rfl rfl rfl (by first | exact rf_g _ (by omega) | exact rf_h _ (by omega) | exact rf_b _ | exact cx_pc _ | exact cx_r _ (by omega) | rfl) (by first | exact rf_set_g _ (by omega) _ | exact rf_set_h _ (by omega) _ | exact rf_set_b _ _ | exact cx_set_pc _ _ | exact cx_set_r _ (by omega) _ | rfl) ?_
   | ((refine z_sti 1 rfl rfl ?_; refine o_store1 rfl tabOk rfl rfl rfl rfl rfl (by first | exact rf_g _ (by omega) | exact rf_h _ (by omega) | exact rf_b _ | exact cx_pc _ | exact cx_r _ (by omega) | rfl) (by first | exact rf_set_g _ (by omega) _ | exact rf_set_h _ (by omega) _ | exact rf_set_b _ _ | exact cx_set_pc _ _ | exact cx_set_r _ (by omega) _ | rfl) ?_))
   | ((refine z_sti 2 rfl rfl ?_; refine o_store2 rfl tabOk rfl rfl rfl rfl rfl (by first | exact rf_g _ (by omega) | exact rf_h _ (by omega) | exact rf_b _ | exact cx_pc _ | exact cx_r _ (by omega) | rfl) (by first | exact rf_set_g _ (by omega) _ | exact rf_set_h _ (by omega) _ | exact rf_set_b _ _ | exact cx_set_pc _ _ | exact cx_set_r _ (by omega) _ | rfl) ?_))
   | ((refine z_sti 3 rfl rfl ?_; refine o_store3 rfl tabOk rfl rfl rfl rfl rfl (by first | exact rf_g _ (by omega) | exact rf_h _ (by omega) | exact rf_b _ | exact cx_pc _ | exact cx_r _ (by omega) | rfl) (by first | exact rf_set_g _ (by omega) _ | exact rf_set_h _ (by omega) _ | exact rf_set_b _ _ | exact cx_set_pc _ _ | exact cx_set_r _ (by omega) _ | rfl) ?_))
   | ((refine z_sti 4 rfl rfl ?_; refine o_store4 rfl tabOk rfl rfl rfl rfl rfl (by first | exact rf_g _ (by omega) | exact rf_h _ (by omega) | exact rf_b _ | exact cx_pc _ | exact cx_r _ (by omega) | rfl) (by first | exact rf_set_g _ (by omega) _ | exact rf_set_h _ (by omega) _ | exact rf_set_b _ _ | exact cx_set_pc _ _ | exact cx_set_r _ (by omega) _ | rfl) ?_))
   | ((refine z_sti 5 rfl rfl ?_; refine o_store5 rfl tabOk rfl rfl rfl rfl rfl (by first | exact rf_g _ (by omega) | exact rf_h _ (by omega) | exact rf_b _ | exact cx_pc _ | exact cx_r _ (by omega) | rfl) (by first | exact rf_set_g _ (by omega) _ | exact rf_set_h _ (by omega) _ | exact rf_set_b _ _ | exact cx_set_pc _ _ | exact cx_set_r _ (by omega) _ | rfl) ?_))
   | ((refine z_sti 6 rfl rfl ?_; refine o_store6 rfl tabOk rfl rfl rfl rfl rfl (by first | exact rf_g _ (by omega) | exact rf_h _ (by omega) | exact rf_b _ | exact cx_pc _ | exact cx_r _ (by omega) | rfl) (by first | exact rf_set_g _ (by omega) _ | exact rf_set_h _ (by omega) _ | exact rf_set_b _ _ | exact cx_set_pc _ _ | exact cx_set_r _ (by omega) _ | rfl) ?_))))
   | (refine z_ispick ?_; first
   | (refine o_pick1 rfl (by first | with_reducible rfl | with_reducible assumption | ((with_reducible refine decide_eq_true ?_); first | with_reducible rfl | with_reducible assumption | omega)) rfl (by decide) ?_)
   | (refine o_pick0 rfl (by first | with_reducible rfl | with_reducible assumption | ((with_reducible refine decide_eq_false ?_); first | with_reducible assumption | omega)) rfl (by decide) ?_)
   | (refine o_pick1 rfl (by first | (simp only [Bool.not_eq_true', decide_eq_false_iff_not]; omega) | (with_reducible assumption) | (rw [decide_eq_false] <;> (first | omega | with_reducible rfl)) | (rw [decide_eq_true] <;> (first | omega | with_reducible rfl)) | (simp; done) | (simp; omega)) rfl (by decide) ?_)
   | (refine o_pick0 rfl (by first | (simp only [Bool.not_eq_false', decide_eq_true_eq]; omega) | (with_reducible assumption) | (rw [decide_eq_false] <;> (first | omega | with_reducible rfl)) | (rw [decide_eq_true] <;> (first | omega | with_reducible rfl)) | (simp; done) | (simp; omega)) rfl (by decide) ?_))
   | (refine z_isix ?_; first
   | refine o_index0 tabOk rfl rfl rfl rfl (by omega) (by omega) (by decide) ?_
   | refine o_index1 tabOk rfl rfl rfl rfl (by omega) (by omega) (by decide) ?_
   | refine o_indexsk tabOk rfl rfl rfl rfl (by omega) (by omega) (by decide) ?_
   | refine o_indexs1 tabOk (by first | assumption) rfl rfl rfl rfl (by omega) (by omega) (by decide) ?_)
   | refine o_move rfl (by decide) ?_
   | refine o_assign rfl (by decide) ?_
   | refine o_nil rfl (by decide) ?_
   | refine o_extract rfl rfl (by decide) ?_
   | refine o_not rfl (by decide) ?_
   | refine o_field0 tabOk rfl rfl rfl rfl rfl (by decide) ?_
   | refine o_field tabOk rfl rfl rfl rfl rfl (by decide) ?_
   | refine o_conv tabOk rfl rfl rfl (by decide) ?_))
  refine Hold.go ?_
  by_cases h9 : k < n
  · have eg : (!r.g k.toNat) = true := by rw [hall k hk.1 h9]; rfl
    clear hall
    repeat' (first
     | (refine s_is ?_; first
     | (refine s_isagain ?_; first
     | exact c_again (k + 1) ⟨by omega, by omega⟩ (by omega) ⟨rfl, rfl, rfl, rfl, trivial⟩ (fun w h => h))
     | (refine s_isw ?_; first
     | refine c_seq ?_
     | refine c_block ?_
     | refine c_region ?_
     | refine c_mixed mixed (by kernel_rfl) ?_
     | refine c_skip ?_
     | refine c_ret ?_
     | refine c_exit ?_
     | (refine s_iscond ?_; first
     | (refine c_true rfl (by first | with_reducible rfl | with_reducible assumption | ((with_reducible refine decide_eq_true ?_); first | with_reducible rfl | with_reducible assumption | omega)) ?_)
     | (refine c_false rfl (by first | with_reducible rfl | with_reducible assumption | ((with_reducible refine decide_eq_false ?_); first | with_reducible assumption | omega)) ?_)
     | (refine c_true rfl (by first | (simp only [Bool.not_eq_true', decide_eq_false_iff_not]; omega) | (with_reducible assumption) | (rw [decide_eq_false] <;> (first | omega | with_reducible rfl)) | (rw [decide_eq_true] <;> (first | omega | with_reducible rfl)) | (simp; done) | (simp; omega)) ?_)
     | (refine c_false rfl (by first | (simp only [Bool.not_eq_false', decide_eq_true_eq]; omega) | (with_reducible assumption) | (rw [decide_eq_false] <;> (first | omega | with_reducible rfl)) | (rw [decide_eq_true] <;> (first | omega | with_reducible rfl)) | (simp; done) | (simp; omega)) ?_)
     | refine c_cond rfl (fun hc => ?_) (fun hc => ?_)
     | refine c_condb rfl (fun hc => ?_) (fun hc => ?_)))
     | refine x_then ?_
     | refine x_then_ret ?_
     | refine x_then_exit ?_
     | refine x_block _ ?_
     | refine x_block_ret _ ?_
     | refine x_block_exit _ ?_
     | refine x_block_past (by decide) ?_
     | refine z_tailm ?_)
     | (refine z_isg0 ?_; first
     | refine z_skipu (by decide) rfl rfl ?_
     | (refine z_want0 rfl rfl (by first | with_reducible rfl | with_reducible assumption | ((with_reducible refine decide_eq_false ?_); first | with_reducible assumption | omega)) ?_)
     | (refine z_skip0 (by decide) rfl rfl (by first | with_reducible rfl | with_reducible assumption | ((with_reducible refine decide_eq_true ?_); first | with_reducible rfl | with_reducible assumption | omega)) ?_)
     | (refine z_want0 rfl rfl (by first | (simp only [Bool.not_eq_false', decide_eq_true_eq]; omega) | (with_reducible assumption) | (rw [decide_eq_false] <;> (first | omega | with_reducible rfl)) | (rw [decide_eq_true] <;> (first | omega | with_reducible rfl)) | (simp; done) | (simp; omega)) ?_)
     | (refine z_skip0 (by decide) rfl rfl (by first | (simp only [Bool.not_eq_true', decide_eq_false_iff_not]; omega) | (with_reducible assumption) | (rw [decide_eq_false] <;> (first | omega | with_reducible rfl)) | (rw [decide_eq_true] <;> (first | omega | with_reducible rfl)) | (simp; done) | (simp; omega)) ?_)
     | refine z_guard0 (by decide) rfl rfl (fun hc => ?_) (fun hc => ?_)
     | refine z_guardb (by decide) rfl rfl (fun hc => ?_) (fun hc => ?_))
     | (refine z_isnil ?_; first
     | refine z_keep1 ?_
     | refine z_list ?_
     | refine z_mixed ?_
     | refine z_mono0 ?_
     | refine z_mono1 (by decide) fun g => ?_
     | refine z_mono2 (by decide) (by decide) fun g g' => ?_
     | refine z_mixedx ?_
     | refine z_quiet ?_)
     | (refine z_isop ?_; first
     | refine o_boxa rfl rfl (by decide) fun g => ?_
     | refine o_alloca (e := 26) (vs := Cx.zero.cs) rfl (by kernel_rfl) (by decide) fun g => ?_
     | refine o_build (t := 26) (v := .agg Cx.zero.cs.toArray) rfl (fun _ => by kernel_rfl) (by decide) ?_
     | refine o_build (t := 32) (v := .agg (boCs fun _ => false).toArray) rfl (fun _ => by kernel_rfl) (by decide) ?_
     | (refine z_isbin ?_; first
     | (refine z_isb .add ?_; first
     | refine o_add rfl rfl (by omega) (by omega) (by decide) ?_
     | refine o_addw rfl rfl (by decide) ?_)
     | (refine z_isb .neq ?_; first
     | refine o_ne rfl rfl (by decide) ?_
     | refine o_bne tabOk rfl rfl rfl (by decide) ?_
     | refine o_pne tabOk rfl rfl (by decide) ?_)
     | (refine z_isb .leq ?_; first
     | refine o_le rfl rfl (by decide) ?_))
     | (refine z_isload ?_; first
     | refine o_loadp tabOk rfl rfl rfl 0 rfl (cx_len _) (rf_c _) (by decide) ?_
     | refine o_loadp tabOk rfl rfl rfl 1 rfl (cx_len _) (rf_c _) (by decide) ?_
     | refine o_loadp tabOk rfl rfl rfl 2 rfl (cx_len _) (rf_c _) (by decide) ?_
     | (refine z_ld1 tabOk rfl rfl ?_; first
     | refine o_loadm tabOk rfl rfl rfl (by repeat' (first | exact List.mem_cons_self | apply List.mem_cons_of_mem)) (by first | exact rf_g _ (by omega) | exact rf_h _ (by omega) | exact rf_b _ | exact cx_pc _ | exact cx_r _ (by omega) | rfl) (by decide) ?_
     | refine o_loads tabOk (by first | assumption | exact Rds.cons _ (by assumption) | exact Rds.cons _ (Rds.cons _ (by assumption)) | exact own_rds 0 rfl | exact own_rds 1 rfl | exact own_rds 2 rfl) rfl rfl rfl (by first | exact rf_g _ (by omega) | exact rf_h _ (by omega) | exact rf_b _ | exact cx_pc _ | exact cx_r _ (by omega) | rfl) (by decide) ?_)
     | (refine z_ldw tabOk rfl rfl ?_; first
     | refine o_loadwm tabOk rfl rfl rfl (by repeat' (first | exact List.mem_cons_self | apply List.mem_cons_of_mem)) (by first | exact rf_len _ | exact cx_len _ | exact bo_len _ | (simp only [rf_len, cx_len, bo_len]) | rfl) (by decide) ?_))
     | (refine z_isstore ?_; first
     | (refine o_storew_at rfl 0 tabOk rfl rfl rfl rfl (cx_len _) (cx_one _) (by rw [rf_len, cx_len]; decide) (rf_set_c _ _) ?_)
     | (refine o_storew_at rfl 1 tabOk rfl rfl rfl rfl (cx_len _) (cx_one _) (by rw [rf_len, cx_len]; decide) (rf_set_c _ _) ?_)
     | (refine o_storew_at rfl 2 tabOk rfl rfl rfl rfl (cx_len _) (cx_one _) (by rw [rf_len, cx_len]; decide) (rf_set_c _ _) ?_)
     | (refine o_storew_at rfl 2 tabOk rfl rfl rfl rfl (bo_len _) (bo_one _) (by rw [rf_len, bo_len]; decide) (rf_set_gs _ _) ?_)
     | refine o_storebk 0 tabOk rfl rfl rfl rfl (by first | exact rf_len _ | exact cx_len _ | exact bo_len _ | (simp only [rf_len, cx_len, bo_len]) | rfl) (by first | exact rf_one _ | exact cx_one _ | exact bo_one _ | rfl) (by first | exact rf_len _ | exact cx_len _ | exact bo_len _ | (simp only [rf_len, cx_len, bo_len]) | rfl) ?_
     | (refine z_stw rfl ?_; first
     | ((refine z_sti 0 rfl rfl ?_; refine o_storeb0 rfl tabOk rfl rfl rfl (by first | exact rf_len _ | exact cx_len _ | exact bo_len _ | (simp only [rf_len, cx_len, bo_len]) | rfl) (by first | exact rf_one _ | exact cx_one _ | exact bo_one _ | rfl) (by first | exact rf_len _ | exact cx_len _ | exact bo_len _ | (simp only [rf_len, cx_len, bo_len]) | rfl) ?_))
     | ((refine z_sti 1 rfl rfl ?_; refine o_storeb1 rfl tabOk rfl rfl rfl (by first | exact rf_len _ | exact cx_len _ | exact bo_len _ | (simp only [rf_len, cx_len, bo_len]) | rfl) (by first | exact rf_one _ | exact cx_one _ | exact bo_one _ | rfl) (by first | exact rf_len _ | exact cx_len _ | exact bo_len _ | (simp only [rf_len, cx_len, bo_len]) | rfl) ?_))
     | ((refine z_sti 2 rfl rfl ?_; refine o_storeb2 rfl tabOk rfl rfl rfl (by first | exact rf_len _ | exact cx_len _ | exact bo_len _ | (simp only [rf_len, cx_len, bo_len]) | rfl) (by first | exact rf_one _ | exact cx_one _ | exact bo_one _ | rfl) (by first | exact rf_len _ | exact cx_len _ | exact bo_len _ | (simp only [rf_len, cx_len, bo_len]) | rfl) ?_))
     | ((refine z_sti 3 rfl rfl ?_; refine o_storeb3 rfl tabOk rfl rfl rfl (by first | exact rf_len _ | exact cx_len _ | exact bo_len _ | (simp only [rf_len, cx_len, bo_len]) | rfl) (by first | exact rf_one _ | exact cx_one _ | exact bo_one _ | rfl) (by first | exact rf_len _ | exact cx_len _ | exact bo_len _ | (simp only [rf_len, cx_len, bo_len]) | rfl) ?_))
     | ((refine z_sti 4 rfl rfl ?_; refine o_storeb4 rfl tabOk rfl rfl rfl (by first | exact rf_len _ | exact cx_len _ | exact bo_len _ | (simp only [rf_len, cx_len, bo_len]) | rfl) (by first | exact rf_one _ | exact cx_one _ | exact bo_one _ | rfl) (by first | exact rf_len _ | exact cx_len _ | exact bo_len _ | (simp only [rf_len, cx_len, bo_len]) | rfl) ?_))
     | ((refine z_sti 5 rfl rfl ?_; refine o_storeb5 rfl tabOk rfl rfl rfl (by first | exact rf_len _ | exact cx_len _ | exact bo_len _ | (simp only [rf_len, cx_len, bo_len]) | rfl) (by first | exact rf_one _ | exact cx_one _ | exact bo_one _ | rfl) (by first | exact rf_len _ | exact cx_len _ | exact bo_len _ | (simp only [rf_len, cx_len, bo_len]) | rfl) ?_))
     | ((refine z_sti 6 rfl rfl ?_; refine o_storeb6 rfl tabOk rfl rfl rfl (by first | exact rf_len _ | exact cx_len _ | exact bo_len _ | (simp only [rf_len, cx_len, bo_len]) | rfl) (by first | exact rf_one _ | exact cx_one _ | exact bo_one _ | rfl) (by first | exact rf_len _ | exact cx_len _ | exact bo_len _ | (simp only [rf_len, cx_len, bo_len]) | rfl) ?_)))
     | (refine z_st1 rfl rfl ?_; first
     | refine o_store rfl tabOk rfl rfl rfl rfl rfl (by first | exact rf_g _ (by omega) | exact rf_h _ (by omega) | exact rf_b _ | exact cx_pc _ | exact cx_r _ (by omega) | rfl) (by first | exact rf_set_g _ (by omega) _ | exact rf_set_h _ (by omega) _ | exact rf_set_b _ _ | exact cx_set_pc _ _ | exact cx_set_r _ (by omega) _ | rfl) ?_
     | ((refine z_sti 1 rfl rfl ?_; refine o_store1 rfl tabOk rfl rfl rfl rfl rfl (by first | exact rf_g _ (by omega) | exact rf_h _ (by omega) | exact rf_b _ | exact cx_pc _ | exact cx_r _ (by omega) | rfl) (by first | exact rf_set_g _ (by omega) _ | exact rf_set_h _ (by omega) _ | exact rf_set_b _ _ | exact cx_set_pc _ _ | exact cx_set_r _ (by omega) _ | rfl) ?_))
     | ((refine z_sti 2 rfl rfl ?_; refine o_store2 rfl tabOk rfl rfl rfl rfl rfl (by first | exact rf_g _ (by omega) | exact rf_h _ (by omega) | exact rf_b _ | exact cx_pc _ | exact cx_r _ (by omega) | rfl) (by first | exact rf_set_g _ (by omega) _ | exact rf_set_h _ (by omega) _ | exact rf_set_b _ _ | exact cx_set_pc _ _ | exact cx_set_r _ (by omega) _ | rfl) ?_))
     | ((refine z_sti 3 rfl rfl ?_; refine o_store3 rfl tabOk rfl rfl rfl rfl rfl (by first | exact rf_g _ (by omega) | exact rf_h _ (by omega) | exact rf_b _ | exact cx_pc _ | exact cx_r _ (by omega) | rfl) (by first | exact rf_set_g _ (by omega) _ | exact rf_set_h _ (by omega) _ | exact rf_set_b _ _ | exact cx_set_pc _ _ | exact cx_set_r _ (by omega) _ | rfl) ?_))
     | ((refine z_sti 4 rfl rfl ?_; refine o_store4 rfl tabOk rfl rfl rfl rfl rfl (by first | exact rf_g _ (by omega) | exact rf_h _ (by omega) | exact rf_b _ | exact cx_pc _ | exact cx_r _ (by omega) | rfl) (by first | exact rf_set_g _ (by omega) _ | exact rf_set_h _ (by omega) _ | exact rf_set_b _ _ | exact cx_set_pc _ _ | exact cx_set_r _ (by omega) _ | rfl) ?_))
     | ((refine z_sti 5 rfl rfl ?_; refine o_store5 rfl tabOk rfl rfl rfl rfl rfl (by first | exact rf_g _ (by omega) | exact rf_h _ (by omega) | exact rf_b _ | exact cx_pc _ | exact cx_r _ (by omega) | rfl) (by first | exact rf_set_g _ (by omega) _ | exact rf_set_h _ (by omega) _ | exact rf_set_b _ _ | exact cx_set_pc _ _ | exact cx_set_r _ (by omega) _ | rfl) ?_))
     | ((refine z_sti 6 rfl rfl ?_; refine o_store6 rfl tabOk rfl rfl rfl rfl rfl (by first | exact rf_g _ (by omega) | exact rf_h _ (by omega) | exact rf_b _ | exact cx_pc _ | exact cx_r _ (by omega) | rfl) (by first | exact rf_set_g _ (by omega) _ | exact rf_set_h _ (by omega) _ | exact rf_set_b _ _ | exact cx_set_pc _ _ | exact cx_set_r _ (by omega) _ | rfl) ?_))))
     | (refine z_ispick ?_; first
     | (refine o_pick1 rfl (by first | with_reducible rfl | with_reducible assumption | ((with_reducible refine decide_eq_true ?_); first | with_reducible rfl | with_reducible assumption | omega)) rfl (by decide) ?_)
     | (refine o_pick0 rfl (by first | with_reducible rfl | with_reducible assumption | ((with_reducible refine decide_eq_false ?_); first | with_reducible assumption | omega)) rfl (by decide) ?_)
     | (refine o_pick1 rfl (by first | (simp only [Bool.not_eq_true', decide_eq_false_iff_not]; omega) | (with_reducible assumption) | (rw [decide_eq_false] <;> (first | omega | with_reducible rfl)) | (rw [decide_eq_true] <;> (first | omega | with_reducible rfl)) | (simp; done) | (simp; omega)) rfl (by decide) ?_)
     | (refine o_pick0 rfl (by first | (simp only [Bool.not_eq_false', decide_eq_true_eq]; omega) | (with_reducible assumption) | (rw [decide_eq_false] <;> (first | omega | with_reducible rfl)) | (rw [decide_eq_true] <;> (first | omega | with_reducible rfl)) | (simp; done) | (simp; omega)) rfl (by decide) ?_))
     | (refine z_isix ?_; first
     | refine o_index0 tabOk rfl rfl rfl rfl (by omega) (by omega) (by decide) ?_
     | refine o_index1 tabOk rfl rfl rfl rfl (by omega) (by omega) (by decide) ?_
     | refine o_indexsk tabOk rfl rfl rfl rfl (by omega) (by omega) (by decide) ?_
     | refine o_indexs1 tabOk (by first | assumption) rfl rfl rfl rfl (by omega) (by omega) (by decide) ?_)
     | refine o_move rfl (by decide) ?_
     | refine o_assign rfl (by decide) ?_
     | refine o_nil rfl (by decide) ?_
     | refine o_extract rfl rfl (by decide) ?_
     | refine o_not rfl (by decide) ?_
     | refine o_field0 tabOk rfl rfl rfl rfl rfl (by decide) ?_
     | refine o_field tabOk rfl rfl rfl rfl rfl (by decide) ?_
     | refine o_conv tabOk rfl rfl rfl (by decide) ?_))
  · obtain rfl : k = n := by omega
    have eg : (!r.g k.toNat) = false := by rw [hg]; rfl
    clear hall
    repeat' (first
     | (refine s_is ?_; first
     | refine c_keep1 (id := 16) mixed (by kernel_rfl) ?_
     | (refine s_isret ?_; first
     | exact f_r3 rfl (res_t rfl) (res_t rfl) (res_c tabOk rfl rfl rfl 0 rfl (cx_len _)) () trivial rfl (fun w h => h.sub (List.sublist_append_right [_, _] _)))
     | (refine s_isw ?_; first
     | refine c_seq ?_
     | refine c_block ?_
     | refine c_region ?_
     | refine c_mixed mixed (by kernel_rfl) ?_
     | refine c_skip ?_
     | refine c_ret ?_
     | refine c_exit ?_
     | (refine s_iscond ?_; first
     | (refine c_true rfl (by first | with_reducible rfl | with_reducible assumption | ((with_reducible refine decide_eq_true ?_); first | with_reducible rfl | with_reducible assumption | omega)) ?_)
     | (refine c_false rfl (by first | with_reducible rfl | with_reducible assumption | ((with_reducible refine decide_eq_false ?_); first | with_reducible assumption | omega)) ?_)
     | (refine c_true rfl (by first | (simp only [Bool.not_eq_true', decide_eq_false_iff_not]; omega) | (with_reducible assumption) | (rw [decide_eq_false] <;> (first | omega | with_reducible rfl)) | (rw [decide_eq_true] <;> (first | omega | with_reducible rfl)) | (simp; done) | (simp; omega)) ?_)
     | (refine c_false rfl (by first | (simp only [Bool.not_eq_false', decide_eq_true_eq]; omega) | (with_reducible assumption) | (rw [decide_eq_false] <;> (first | omega | with_reducible rfl)) | (rw [decide_eq_true] <;> (first | omega | with_reducible rfl)) | (simp; done) | (simp; omega)) ?_)
     | refine c_cond rfl (fun hc => ?_) (fun hc => ?_)
     | refine c_condb rfl (fun hc => ?_) (fun hc => ?_)))
     | refine x_then ?_
     | refine x_then_ret ?_
     | refine x_then_exit ?_
     | refine x_block _ ?_
     | refine x_block_ret _ ?_
     | refine x_block_exit _ ?_
     | refine x_block_past (by decide) ?_
     | refine z_tailm ?_)
     | (refine z_isg0 ?_; first
     | refine z_skipu (by decide) rfl rfl ?_
     | (refine z_want0 rfl rfl (by first | with_reducible rfl | with_reducible assumption | ((with_reducible refine decide_eq_false ?_); first | with_reducible assumption | omega)) ?_)
     | (refine z_skip0 (by decide) rfl rfl (by first | with_reducible rfl | with_reducible assumption | ((with_reducible refine decide_eq_true ?_); first | with_reducible rfl | with_reducible assumption | omega)) ?_)
     | (refine z_want0 rfl rfl (by first | (simp only [Bool.not_eq_false', decide_eq_true_eq]; omega) | (with_reducible assumption) | (rw [decide_eq_false] <;> (first | omega | with_reducible rfl)) | (rw [decide_eq_true] <;> (first | omega | with_reducible rfl)) | (simp; done) | (simp; omega)) ?_)
     | (refine z_skip0 (by decide) rfl rfl (by first | (simp only [Bool.not_eq_true', decide_eq_false_iff_not]; omega) | (with_reducible assumption) | (rw [decide_eq_false] <;> (first | omega | with_reducible rfl)) | (rw [decide_eq_true] <;> (first | omega | with_reducible rfl)) | (simp; done) | (simp; omega)) ?_)
     | refine z_guard0 (by decide) rfl rfl (fun hc => ?_) (fun hc => ?_)
     | refine z_guardb (by decide) rfl rfl (fun hc => ?_) (fun hc => ?_))
     | (refine z_isnil ?_; first
     | refine z_keep1 ?_
     | refine z_list ?_
     | refine z_mixed ?_
     | refine z_mono0 ?_
     | refine z_mono1 (by decide) fun g => ?_
     | refine z_mono2 (by decide) (by decide) fun g g' => ?_
     | refine z_mixedx ?_
     | refine z_quiet ?_)
     | (refine z_isop ?_; first
     | refine o_boxa rfl rfl (by decide) fun g => ?_
     | refine o_alloca (e := 26) (vs := Cx.zero.cs) rfl (by kernel_rfl) (by decide) fun g => ?_
     | refine o_build (t := 26) (v := .agg Cx.zero.cs.toArray) rfl (fun _ => by kernel_rfl) (by decide) ?_
     | refine o_build (t := 32) (v := .agg (boCs fun _ => false).toArray) rfl (fun _ => by kernel_rfl) (by decide) ?_
     | (refine z_isbin ?_; first
     | (refine z_isb .add ?_; first
     | refine o_add rfl rfl (by omega) (by omega) (by decide) ?_
     | refine o_addw rfl rfl (by decide) ?_)
     | (refine z_isb .neq ?_; first
     | refine o_ne rfl rfl (by decide) ?_
     | refine o_bne tabOk rfl rfl rfl (by decide) ?_
     | refine o_pne tabOk rfl rfl (by decide) ?_)
     | (refine z_isb .leq ?_; first
     | refine o_le rfl rfl (by decide) ?_))
     | (refine z_isload ?_; first
     | refine o_loadp tabOk rfl rfl rfl 0 rfl (cx_len _) (rf_c _) (by decide) ?_
     | refine o_loadp tabOk rfl rfl rfl 1 rfl (cx_len _) (rf_c _) (by decide) ?_
     | refine o_loadp tabOk rfl rfl rfl 2 rfl (cx_len _) (rf_c _) (by decide) ?_
     | (refine z_ld1 tabOk rfl rfl ?_; first
     | refine o_loadm tabOk rfl rfl rfl (by repeat' (first | exact List.mem_cons_self | apply List.mem_cons_of_mem)) (by first | exact rf_g _ (by omega) | exact rf_h _ (by omega) | exact rf_b _ | exact cx_pc _ | exact cx_r _ (by omega) | rfl) (by decide) ?_
     | refine o_loads tabOk (by first | assumption | exact Rds.cons _ (by assumption) | exact Rds.cons _ (Rds.cons _ (by assumption)) | exact own_rds 0 rfl | exact own_rds 1 rfl | exact own_rds 2 rfl) rfl rfl rfl (by first | exact rf_g _ (by omega) | exact rf_h _ (by omega) | exact rf_b _ | exact cx_pc _ | exact cx_r _ (by omega) | rfl) (by decide) ?_)
     | (refine z_ldw tabOk rfl rfl ?_; first
     | refine o_loadwm tabOk rfl rfl rfl (by repeat' (first | exact List.mem_cons_self | apply List.mem_cons_of_mem)) (by first | exact rf_len _ | exact cx_len _ | exact bo_len _ | (simp only [rf_len, cx_len, bo_len]) | rfl) (by decide) ?_))
     | (refine z_isstore ?_; first
     | (refine o_storew_at rfl 0 tabOk rfl rfl rfl rfl (cx_len _) (cx_one _) (by rw [rf_len, cx_len]; decide) (rf_set_c _ _) ?_)
     | (refine o_storew_at rfl 1 tabOk rfl rfl rfl rfl (cx_len _) (cx_one _) (by rw [rf_len, cx_len]; decide) (rf_set_c _ _) ?_)
     | (refine o_storew_at rfl 2 tabOk rfl rfl rfl rfl (cx_len _) (cx_one _) (by rw [rf_len, cx_len]; decide) (rf_set_c _ _) ?_)
     | (refine o_storew_at rfl 2 tabOk rfl rfl rfl rfl (bo_len _) (bo_one _) (by rw [rf_len, bo_len]; decide) (rf_set_gs _ _) ?_)
     | refine o_storebk 0 tabOk rfl rfl rfl rfl (by first | exact rf_len _ | exact cx_len _ | exact bo_len _ | (simp only [rf_len, cx_len, bo_len]) | rfl) (by first | exact rf_one _ | exact cx_one _ | exact bo_one _ | rfl) (by first | exact rf_len _ | exact cx_len _ | exact bo_len _ | (simp only [rf_len, cx_len, bo_len]) | rfl) ?_
     | (refine z_stw rfl ?_; first
     | ((refine z_sti 0 rfl rfl ?_; refine o_storeb0 rfl tabOk rfl rfl rfl (by first | exact rf_len _ | exact cx_len _ | exact bo_len _ | (simp only [rf_len, cx_len, bo_len]) | rfl) (by first | exact rf_one _ | exact cx_one _ | exact bo_one _ | rfl) (by first | exact rf_len _ | exact cx_len _ | exact bo_len _ | (simp only [rf_len, cx_len, bo_len]) | rfl) ?_))
     | ((refine z_sti 1 rfl rfl ?_; refine o_storeb1 rfl tabOk rfl rfl rfl (by first | exact rf_len _ | exact cx_len _ | exact bo_len _ | (simp only [rf_len, cx_len, bo_len]) | rfl) (by first | exact rf_one _ | exact cx_one _ | exact bo_one _ | rfl) (by first | exact rf_len _ | exact cx_len _ | exact bo_len _ | (simp only [rf_len, cx_len, bo_len]) | rfl) ?_))
     | ((refine z_sti 2 rfl rfl ?_; refine o_storeb2 rfl tabOk rfl rfl rfl (by first | exact rf_len _ | exact cx_len _ | exact bo_len _ | (simp only [rf_len, cx_len, bo_len]) | rfl) (by first | exact rf_one _ | exact cx_one _ | exact bo_one _ | rfl) (by first | exact rf_len _ | exact cx_len _ | exact bo_len _ | (simp only [rf_len, cx_len, bo_len]) | rfl) ?_))
     | ((refine z_sti 3 rfl rfl ?_; refine o_storeb3 rfl tabOk rfl rfl rfl (by first | exact rf_len _ | exact cx_len _ | exact bo_len _ | (simp only [rf_len, cx_len, bo_len]) | rfl) (by first | exact rf_one _ | exact cx_one _ | exact bo_one _ | rfl) (by first | exact rf_len _ | exact cx_len _ | exact bo_len _ | (simp only [rf_len, cx_len, bo_len]) | rfl) ?_))
     | ((refine z_sti 4 rfl rfl ?_; refine o_storeb4 rfl tabOk rfl rfl rfl (by first | exact rf_len _ | exact cx_len _ | exact bo_len _ | (simp only [rf_len, cx_len, bo_len]) | rfl) (by first | exact rf_one _ | exact cx_one _ | exact bo_one _ | rfl) (by first | exact rf_len _ | exact cx_len _ | exact bo_len _ | (simp only [rf_len, cx_len, bo_len]) | rfl) ?_))
     | ((refine z_sti 5 rfl rfl ?_; refine o_storeb5 rfl tabOk rfl rfl rfl (by first | exact rf_len _ | exact cx_len _ | exact bo_len _ | (simp only [rf_len, cx_len, bo_len]) | rfl) (by first | exact rf_one _ | exact cx_one _ | exact bo_one _ | rfl) (by first | exact rf_len _ | exact cx_len _ | exact bo_len _ | (simp only [rf_len, cx_len, bo_len]) | rfl) ?_))
     | ((refine z_sti 6 rfl rfl ?_; refine o_storeb6 rfl tabOk rfl rfl rfl (by first | exact rf_len _ | exact cx_len _ | exact bo_len _ | (simp only [rf_len, cx_len, bo_len]) | rfl) (by first | exact rf_one _ | exact cx_one _ | exact bo_one _ | rfl) (by first | exact rf_len _ | exact cx_len _ | exact bo_len _ | (simp only [rf_len, cx_len, bo_len]) | rfl) ?_)))
     | (refine z_st1 rfl rfl ?_; first
     | refine o_store rfl tabOk rfl rfl rfl rfl rfl (by first | exact rf_g _ (by omega) | exact rf_h _ (by omega) | exact rf_b _ | exact cx_pc _ | exact cx_r _ (by omega) | rfl) (by first | exact rf_set_g _ (by omega) _ | exact rf_set_h _ (by omega) _ | exact rf_set_b _ _ | exact cx_set_pc _ _ | exact cx_set_r _ (by omega) _ | rfl) ?_
     | ((refine z_sti 1 rfl rfl ?_; refine o_store1 rfl tabOk rfl rfl rfl rfl rfl (by first | exact rf_g _ (by omega) | exact rf_h _ (by omega) | exact rf_b _ | exact cx_pc _ | exact cx_r _ (by omega) | rfl) (by first | exact rf_set_g _ (by omega) _ | exact rf_set_h _ (by omega) _ | exact rf_set_b _ _ | exact cx_set_pc _ _ | exact cx_set_r _ (by omega) _ | rfl) ?_))
     | ((refine z_sti 2 rfl rfl ?_; refine o_store2 rfl tabOk rfl rfl rfl rfl rfl (by first | exact rf_g _ (by omega) | exact rf_h _ (by omega) | exact rf_b _ | exact cx_pc _ | exact cx_r _ (by omega) | rfl) (by first | exact rf_set_g _ (by omega) _ | exact rf_set_h _ (by omega) _ | exact rf_set_b _ _ | exact cx_set_pc _ _ | exact cx_set_r _ (by omega) _ | rfl) ?_))
     | ((refine z_sti 3 rfl rfl ?_; refine o_store3 rfl tabOk rfl rfl rfl rfl rfl (by first | exact rf_g _ (by omega) | exact rf_h _ (by omega) | exact rf_b _ | exact cx_pc _ | exact cx_r _ (by omega) | rfl) (by first | exact rf_set_g _ (by omega) _ | exact rf_set_h _ (by omega) _ | exact rf_set_b _ _ | exact cx_set_pc _ _ | exact cx_set_r _ (by omega) _ | rfl) ?_))
     | ((refine z_sti 4 rfl rfl ?_; refine o_store4 rfl tabOk rfl rfl rfl rfl rfl (by first | exact rf_g _ (by omega) | exact rf_h _ (by omega) | exact rf_b _ | exact cx_pc _ | exact cx_r _ (by omega) | rfl) (by first | exact rf_set_g _ (by omega) _ | exact rf_set_h _ (by omega) _ | exact rf_set_b _ _ | exact cx_set_pc _ _ | exact cx_set_r _ (by omega) _ | rfl) ?_))
     | ((refine z_sti 5 rfl rfl ?_; refine o_store5 rfl tabOk rfl rfl rfl rfl rfl (by first | exact rf_g _ (by omega) | exact rf_h _ (by omega) | exact rf_b _ | exact cx_pc _ | exact cx_r _ (by omega) | rfl) (by first | exact rf_set_g _ (by omega) _ | exact rf_set_h _ (by omega) _ | exact rf_set_b _ _ | exact cx_set_pc _ _ | exact cx_set_r _ (by omega) _ | rfl) ?_))
     | ((refine z_sti 6 rfl rfl ?_; refine o_store6 rfl tabOk rfl rfl rfl rfl rfl (by first | exact rf_g _ (by omega) | exact rf_h _ (by omega) | exact rf_b _ | exact cx_pc _ | exact cx_r _ (by omega) | rfl) (by first | exact rf_set_g _ (by omega) _ | exact rf_set_h _ (by omega) _ | exact rf_set_b _ _ | exact cx_set_pc _ _ | exact cx_set_r _ (by omega) _ | rfl) ?_))))
     | (refine z_ispick ?_; first
     | (refine o_pick1 rfl (by first | with_reducible rfl | with_reducible assumption | ((with_reducible refine decide_eq_true ?_); first | with_reducible rfl | with_reducible assumption | omega)) rfl (by decide) ?_)
     | (refine o_pick0 rfl (by first | with_reducible rfl | with_reducible assumption | ((with_reducible refine decide_eq_false ?_); first | with_reducible assumption | omega)) rfl (by decide) ?_)
     | (refine o_pick1 rfl (by first | (simp only [Bool.not_eq_true', decide_eq_false_iff_not]; omega) | (with_reducible assumption) | (rw [decide_eq_false] <;> (first | omega | with_reducible rfl)) | (rw [decide_eq_true] <;> (first | omega | with_reducible rfl)) | (simp; done) | (simp; omega)) rfl (by decide) ?_)
     | (refine o_pick0 rfl (by first | (simp only [Bool.not_eq_false', decide_eq_true_eq]; omega) | (with_reducible assumption) | (rw [decide_eq_false] <;> (first | omega | with_reducible rfl)) | (rw [decide_eq_true] <;> (first | omega | with_reducible rfl)) | (simp; done) | (simp; omega)) rfl (by decide) ?_))
     | (refine z_isix ?_; first
     | refine o_index0 tabOk rfl rfl rfl rfl (by omega) (by omega) (by decide) ?_
     | refine o_index1 tabOk rfl rfl rfl rfl (by omega) (by omega) (by decide) ?_
     | refine o_indexsk tabOk rfl rfl rfl rfl (by omega) (by omega) (by decide) ?_
     | refine o_indexs1 tabOk (by first | assumption) rfl rfl rfl rfl (by omega) (by omega) (by decide) ?_)
     | refine o_move rfl (by decide) ?_
     | refine o_assign rfl (by decide) ?_
     | refine o_nil rfl (by decide) ?_
     | refine o_extract rfl rfl (by decide) ?_
     | refine o_not rfl (by decide) ?_
     | refine o_field0 tabOk rfl rfl rfl rfl rfl (by decide) ?_
     | refine o_field tabOk rfl rfl rfl rfl rfl (by decide) ?_
     | refine o_conv tabOk rfl rfl rfl (by decide) ?_))
set_option maxHeartbeats 8000000 in
theorem rnext_skip (b : Nat) (r : Rf) (c : Cx) (h1 : r.g 1 = false) (eb : r.b = false) (hall : ∀ j : Int, 2 ≤ j → j < 8 → r.g j.toNat = false) (hg : r.g 8 = true) (hh : r.h 8 = 0) : Does Tryd.prog 16 [.pointer (some ⟨b, 0, none⟩), .agg c.cs.toArray] [cells b 34 r.cs] (fun _ : Unit => True) (fun _ => .tuple #[.int .i64 0, .int .i64 0, .agg c.cs.toArray]) (fun _ => [cells b 34 ({ r with g := upd r.g 8 false } : Rf).cs]) := by
  intro w hw
  refine f_enter Tryd.func16 rfl Tryd.ntmps16 rfl hw ?_
  have e3 : decide (r.h 8 ≠ 0) = false := by simp [hh]
  repeat' (first
   | (refine s_is ?_; first
   | (refine s_isw ?_; first
   | (refine s_isloop ?_; first
   | ((rename_i g3; refine c_loop (X := Int) (fun k => 2 ≤ k ∧ k ≤ 9) (fun k => [(0, .pointer (some ⟨b, 0, none⟩)), (3, .pointer (some ⟨g3, 0, none⟩)), (6, .pointer (some ⟨g, 0, none⟩)), (7, .int .i64 k)]) (fun k => [cells g 26 Cx.zero.cs, cells g3 26 c.cs, cells b 34 (if k = 9 then ({ r with g := upd r.g 8 false } : Rf) else r).cs]) (fun k => (9 - k).toNat) 2 ⟨by decide, by omega⟩ ⟨rfl, rfl, rfl, rfl, trivial⟩ (fun w h => h) (fun k hk => ?_); refine hold ?_)))
   | refine c_seq ?_
   | refine c_block ?_
   | refine c_region ?_
   | refine c_mixed mixed (by kernel_rfl) ?_
   | refine c_skip ?_
   | refine c_ret ?_
   | refine c_exit ?_
   | (refine s_iscond ?_; first
   | (refine c_true rfl (by first | with_reducible rfl | with_reducible assumption | ((with_reducible refine decide_eq_true ?_); first | with_reducible rfl | with_reducible assumption | omega)) ?_)
   | (refine c_false rfl (by first | with_reducible rfl | with_reducible assumption | ((with_reducible refine decide_eq_false ?_); first | with_reducible assumption | omega)) ?_)
   | (refine c_true rfl (by first | (simp only [Bool.not_eq_true', decide_eq_false_iff_not]; omega) | (with_reducible assumption) | (rw [decide_eq_false] <;> (first | omega | with_reducible rfl)) | (rw [decide_eq_true] <;> (first | omega | with_reducible rfl)) | (simp; done) | (simp; omega)) ?_)
   | (refine c_false rfl (by first | (simp only [Bool.not_eq_false', decide_eq_true_eq]; omega) | (with_reducible assumption) | (rw [decide_eq_false] <;> (first | omega | with_reducible rfl)) | (rw [decide_eq_true] <;> (first | omega | with_reducible rfl)) | (simp; done) | (simp; omega)) ?_)
   | refine c_cond rfl (fun hc => ?_) (fun hc => ?_)
   | refine c_condb rfl (fun hc => ?_) (fun hc => ?_)))
   | refine x_then ?_
   | refine x_then_ret ?_
   | refine x_then_exit ?_
   | refine x_block _ ?_
   | refine x_block_ret _ ?_
   | refine x_block_exit _ ?_
   | refine x_block_past (by decide) ?_
   | refine z_tailm ?_)
   | (refine z_isg0 ?_; first
   | refine z_skipu (by decide) rfl rfl ?_
   | (refine z_want0 rfl rfl (by first | with_reducible rfl | with_reducible assumption | ((with_reducible refine decide_eq_false ?_); first | with_reducible assumption | omega)) ?_)
   | (refine z_skip0 (by decide) rfl rfl (by first | with_reducible rfl | with_reducible assumption | ((with_reducible refine decide_eq_true ?_); first | with_reducible rfl | with_reducible assumption | omega)) ?_)
   | (refine z_want0 rfl rfl (by first | (simp only [Bool.not_eq_false', decide_eq_true_eq]; omega) | (with_reducible assumption) | (rw [decide_eq_false] <;> (first | omega | with_reducible rfl)) | (rw [decide_eq_true] <;> (first | omega | with_reducible rfl)) | (simp; done) | (simp; omega)) ?_)
   | (refine z_skip0 (by decide) rfl rfl (by first | (simp only [Bool.not_eq_true', decide_eq_false_iff_not]; omega) | (with_reducible assumption) | (rw [decide_eq_false] <;> (first | omega | with_reducible rfl)) | (rw [decide_eq_true] <;> (first | omega | with_reducible rfl)) | (simp; done) | (simp; omega)) ?_)
   | refine z_guard0 (by decide) rfl rfl (fun hc => ?_) (fun hc => ?_)
   | refine z_guardb (by decide) rfl rfl (fun hc => ?_) (fun hc => ?_))
   | (refine z_isnil ?_; first
   | refine z_keep1 ?_
   | refine z_list ?_
   | refine z_mixed ?_
   | refine z_mono0 ?_
   | refine z_mono1 (by decide) fun g => ?_
   | refine z_mono2 (by decide) (by decide) fun g g' => ?_
   | refine z_mixedx ?_
   | refine z_quiet ?_)
   | (refine z_isop ?_; first
   | refine o_boxa rfl rfl (by decide) fun g => ?_
   | refine o_alloca (e := 26) (vs := Cx.zero.cs) rfl (by kernel_rfl) (by decide) fun g => ?_
   | refine o_build (t := 26) (v := .agg Cx.zero.cs.toArray) rfl (fun _ => by kernel_rfl) (by decide) ?_
   | refine o_build (t := 32) (v := .agg (boCs fun _ => false).toArray) rfl (fun _ => by kernel_rfl) (by decide) ?_
   | (refine z_isbin ?_; first
   | (refine z_isb .add ?_; first
   | refine o_add rfl rfl (by omega) (by omega) (by decide) ?_
   | refine o_addw rfl rfl (by decide) ?_)
   | (refine z_isb .neq ?_; first
   | refine o_ne rfl rfl (by decide) ?_
   | refine o_bne tabOk rfl rfl rfl (by decide) ?_
   | refine o_pne tabOk rfl rfl (by decide) ?_)
   | (refine z_isb .leq ?_; first
   | refine o_le rfl rfl (by decide) ?_))
   | (refine z_isload ?_; first
   | refine o_loadp tabOk rfl rfl rfl 0 rfl (cx_len _) (rf_c _) (by decide) ?_
   | refine o_loadp tabOk rfl rfl rfl 1 rfl (cx_len _) (rf_c _) (by decide) ?_
   | refine o_loadp tabOk rfl rfl rfl 2 rfl (cx_len _) (rf_c _) (by decide) ?_
   | (refine z_ld1 tabOk rfl rfl ?_; first
   | refine o_loadm tabOk rfl rfl rfl (by repeat' (first | exact List.mem_cons_self | apply List.mem_cons_of_mem)) (by first | exact rf_g _ (by omega) | exact rf_h _ (by omega) | exact rf_b _ | exact cx_pc _ | exact cx_r _ (by omega) | rfl) (by decide) ?_
   | refine o_loads tabOk (by first | assumption | exact Rds.cons _ (by assumption) | exact Rds.cons _ (Rds.cons _ (by assumption)) | exact own_rds 0 rfl | exact own_rds 1 rfl | exact own_rds 2 rfl) rfl rfl rfl (by first | exact rf_g _ (by omega) | exact rf_h _ (by omega) | exact rf_b _ | exact cx_pc _ | exact cx_r _ (by omega) | rfl) (by decide) ?_)
   | (refine z_ldw tabOk rfl rfl ?_; first
   | refine o_loadwm tabOk rfl rfl rfl (by repeat' (first | exact List.mem_cons_self | apply List.mem_cons_of_mem)) (by first | exact rf_len _ | exact cx_len _ | exact bo_len _ | (simp only [rf_len, cx_len, bo_len]) | rfl) (by decide) ?_))
   | (refine z_isstore ?_; first
   | (refine o_storew_at rfl 0 tabOk rfl rfl rfl rfl (cx_len _) (cx_one _) (by rw [rf_len, cx_len]; decide) (rf_set_c _ _) ?_)
   | (refine o_storew_at rfl 1 tabOk rfl rfl rfl rfl (cx_len _) (cx_one _) (by rw [rf_len, cx_len]; decide) (rf_set_c _ _) ?_)
   | (refine o_storew_at rfl 2 tabOk rfl rfl rfl rfl (cx_len _) (cx_one _) (by rw [rf_len, cx_len]; decide) (rf_set_c _ _) ?_)
   | (refine o_storew_at rfl 2 tabOk rfl rfl rfl rfl (bo_len _) (bo_one _) (by rw [rf_len, bo_len]; decide) (rf_set_gs _ _) ?_)
   | refine o_storebk 0 tabOk rfl rfl rfl rfl (by first | exact rf_len _ | exact cx_len _ | exact bo_len _ | (simp only [rf_len, cx_len, bo_len]) | rfl) (by first | exact rf_one _ | exact cx_one _ | exact bo_one _ | rfl) (by first | exact rf_len _ | exact cx_len _ | exact bo_len _ | (simp only [rf_len, cx_len, bo_len]) | rfl) ?_
   | (refine z_stw rfl ?_; first
   | ((refine z_sti 0 rfl rfl ?_; refine o_storeb0 rfl tabOk rfl rfl rfl (by first | exact rf_len _ | exact cx_len _ | exact bo_len _ | (simp only [rf_len, cx_len, bo_len]) | rfl) (by first | exact rf_one _ | exact cx_one _ | exact bo_one _ | rfl) (by first | exact rf_len _ | exact cx_len _ | exact bo_len _ | (simp only [rf_len, cx_len, bo_len]) | rfl) ?_))
   | ((refine z_sti 1 rfl rfl ?_; refine o_storeb1 rfl tabOk rfl rfl rfl (by first | exact rf_len _ | exact cx_len _ | exact bo_len _ | (simp only [rf_len, cx_len, bo_len]) | rfl) (by first | exact rf_one _ | exact cx_one _ | exact bo_one _ | rfl) (by first | exact rf_len _ | exact cx_len _ | exact bo_len _ | (simp only [rf_len, cx_len, bo_len]) | rfl) ?_))
   | ((refine z_sti 2 rfl rfl ?_; refine o_storeb2 rfl tabOk rfl rfl rfl (by first | exact rf_len _ | exact cx_len _ | exact bo_len _ | (simp only [rf_len, cx_len, bo_len]) | rfl) (by first | exact rf_one _ | exact cx_one _ | exact bo_one _ | rfl) (by first | exact rf_len _ | exact cx_len _ | exact bo_len _ | (simp only [rf_len, cx_len, bo_len]) | rfl) ?_))
   | ((refine z_sti 3 rfl rfl ?_; refine o_storeb3 rfl tabOk rfl rfl rfl (by first | exact rf_len _ | exact cx_len _ | exact bo_len _ | (simp only [rf_len, cx_len, bo_len]) | rfl) (by first | exact rf_one _ | exact cx_one _ | exact bo_one _ | rfl) (by first | exact rf_len _ | exact cx_len _ | exact bo_len _ | (simp only [rf_len, cx_len, bo_len]) | rfl) ?_))
   | ((refine z_sti 4 rfl rfl ?_; refine o_storeb4 rfl tabOk rfl rfl rfl (by first | exact rf_len _ | exact cx_len _ | exact bo_len _ | (simp only [rf_len, cx_len, bo_len]) | rfl) (by first | exact rf_one _ | exact cx_one _ | exact bo_one _ | rfl) (by first | exact rf_len _ | exact cx_len _ | exact bo_len _ | (simp only [rf_len, cx_len, bo_len]) | rfl) ?_))
   | ((refine z_sti 5 rfl rfl ?_; refine o_storeb5 rfl tabOk rfl rfl rfl (by first | exact rf_len _ | exact cx_len _ | exact bo_len _ | (simp only [rf_len, cx_len, bo_len]) | rfl) (by first | exact rf_one _ | exact cx_one _ | exact bo_one _ | rfl) (by first | exact rf_len _ | exact cx_len _ | exact bo_len _ | (simp only [rf_len, cx_len, bo_len]) | rfl) ?_))
   | ((refine z_sti 6 rfl rfl ?_; refine o_storeb6 rfl tabOk rfl rfl rfl (by first | exact rf_len _ | exact cx_len _ | exact bo_len _ | (simp only [rf_len, cx_len, bo_len]) | rfl) (by first | exact rf_one _ | exact cx_one _ | exact bo_one _ | rfl) (by first | exact rf_len _ | exact cx_len _ | exact bo_len _ | (simp only [rf_len, cx_len, bo_len]) | rfl) ?_)))
   | (refine z_st1 rfl rfl ?_; first
   | refine o_store rfl tabOk rfl rfl rfl rfl rfl (by first | exact rf_g _ (by omega) | exact rf_h _ (by omega) | exact rf_b _ | exact cx_pc _ | exact cx_r _ (by omega) | rfl) (by first | exact rf_set_g _ (by omega) _ | exact rf_set_h _ (by omega) _ | exact rf_set_b _ _ | exact cx_set_pc _ _ | exact cx_set_r _ (by omega) _ | rfl) ?_
   | ((refine z_sti 1 rfl rfl ?_; refine o_store1 rfl tabOk rfl rfl rfl rfl rfl (by first | exact rf_g _ (by omega) | exact rf_h _ (by omega) | exact rf_b _ | exact cx_pc _ | exact cx_r _ (by omega) | rfl) (by first | exact rf_set_g _ (by omega) _ | exact rf_set_h _ (by omega) _ | exact rf_set_b _ _ | exact cx_set_pc _ _ | exact cx_set_r _ (by omega) _ | rfl) ?_))
   | ((refine z_sti 2 rfl rfl ?_; refine o_store2 rfl tabOk rfl rfl rfl rfl rfl (by first | exact rf_g _ (by omega) | exact rf_h _ (by omega) | exact rf_b _ | exact cx_pc _ | exact cx_r _ (by omega) | rfl) (by first | exact rf_set_g _ (by omega) _ | exact rf_set_h _ (by omega) _ | exact rf_set_b _ _ | exact cx_set_pc _ _ | exact cx_set_r _ (by omega) _ | rfl) ?_))
   | ((refine z_sti 3 rfl rfl ?_; refine o_store3 rfl tabOk rfl rfl rfl rfl rfl (by first | exact rf_g _ (by omega) | exact rf_h _ (by omega) | exact rf_b _ | exact cx_pc _ | exact cx_r _ (by omega) | rfl) (by first | exact rf_set_g _ (by omega) _ | exact rf_set_h _ (by omega) _ | exact rf_set_b _ _ | exact cx_set_pc _ _ | exact cx_set_r _ (by omega) _ | rfl) ?_))
   | ((refine z_sti 4 rfl rfl ?_; refine o_store4 rfl tabOk rfl rfl rfl rfl rfl (by first | exact rf_g _ (by omega) | exact rf_h _ (by omega) | exact rf_b _ | exact cx_pc _ | exact cx_r _ (by omega) | rfl) (by first | exact rf_set_g _ (by omega) _ | exact rf_set_h _ (by omega) _ | exact rf_set_b _ _ | exact cx_set_pc _ _ | exact cx_set_r _ (by omega) _ | rfl) ?_))
   | ((refine z_sti 5 rfl rfl ?_; refine o_store5 rfl tabOk rfl rfl rfl rfl rfl (by first | exact rf_g _ (by omega) | exact rf_h _ (by omega) | exact rf_b _ | exact cx_pc _ | exact cx_r _ (by omega) | rfl) (by first | exact rf_set_g _ (by omega) _ | exact rf_set_h _ (by omega) _ | exact rf_set_b _ _ | exact cx_set_pc _ _ | exact cx_set_r _ (by omega) _ | rfl) ?_))
   | ((refine z_sti 6 rfl rfl ?_; refine o_store6 rfl tabOk rfl rfl rfl rfl rfl (by first | exact rf_g _ (by omega) | exact rf_h _ (by omega) | exact rf_b _ | exact cx_pc _ | exact cx_r _ (by omega) | rfl) (by first | exact rf_set_g _ (by omega) _ | exact rf_set_h _ (by omega) _ | exact rf_set_b _ _ | exact cx_set_pc _ _ | exact cx_set_r _ (by omega) _ | rfl) ?_))))
   | (refine z_ispick ?_; first
   | (refine o_pick1 rfl (by first | with_reducible rfl | with_reducible assumption | ((with_reducible refine decide_eq_true ?_); first | with_reducible rfl | with_reducible assumption | omega)) rfl (by decide) ?_)
   | (refine o_pick0 rfl (by first | with_reducible rfl | with_reducible assumption | ((with_reducible refine decide_eq_false ?_); first | with_reducible assumption | omega)) rfl (by decide) ?_)
   | (refine o_pick1 rfl (by first | (simp only [Bool.not_eq_true', decide_eq_false_iff_not]; omega) | (with_reducible assumption) | (rw [decide_eq_false] <;> (first | omega | with_reducible rfl)) | (rw [decide_eq_true] <;> (first | omega | with_reducible rfl)) | (simp; done) | (simp; omega)) rfl (by decide) ?_)
   | (refine o_pick0 rfl (by first | (simp only [Bool.not_eq_false', decide_eq_true_eq]; omega) | (with_reducible assumption) | (rw [decide_eq_false] <;> (first | omega | with_reducible rfl)) | (rw [decide_eq_true] <;> (first | omega | with_reducible rfl)) | (simp; done) | (simp; omega)) rfl (by decide) ?_))
   | (refine z_isix ?_; first
   | refine o_index0 tabOk rfl rfl rfl rfl (by omega) (by omega) (by decide) ?_
   | refine o_index1 tabOk rfl rfl rfl rfl (by omega) (by omega) (by decide) ?_
   | refine o_indexsk tabOk rfl rfl rfl rfl (by omega) (by omega) (by decide) ?_
   | refine o_indexs1 tabOk (by first | assumption) rfl rfl rfl rfl (by omega) (by omega) (by decide) ?_)
   | refine o_move rfl (by decide) ?_
   | refine o_assign rfl (by decide) ?_
   | refine o_nil rfl (by decide) ?_
   | refine o_extract rfl rfl (by decide) ?_
   | refine o_not rfl (by decide) ?_
   | refine o_field0 tabOk rfl rfl rfl rfl rfl (by decide) ?_
   | refine o_field tabOk rfl rfl rfl rfl rfl (by decide) ?_
   | refine o_conv tabOk rfl rfl rfl (by decide) ?_))
  refine Hold.go ?_
  by_cases h9 : k < 8
  · have eg : (!r.g k.toNat) = true := by rw [hall k hk.1 h9]; rfl
    rw [if_neg (by omega)]
    clear hall
    repeat' (first
     | (refine s_is ?_; first
     | (refine s_isagain ?_; first
     | (exact c_again (k + 1) ⟨by omega, by omega⟩ (by omega) ⟨rfl, rfl, rfl, rfl, trivial⟩ (fun w h => by rw [if_neg (by omega)]; exact h)))
     | (refine s_isw ?_; first
     | refine c_seq ?_
     | refine c_block ?_
     | refine c_region ?_
     | refine c_mixed mixed (by kernel_rfl) ?_
     | refine c_skip ?_
     | refine c_ret ?_
     | refine c_exit ?_
     | (refine s_iscond ?_; first
     | (refine c_true rfl (by first | with_reducible rfl | with_reducible assumption | ((with_reducible refine decide_eq_true ?_); first | with_reducible rfl | with_reducible assumption | omega)) ?_)
     | (refine c_false rfl (by first | with_reducible rfl | with_reducible assumption | ((with_reducible refine decide_eq_false ?_); first | with_reducible assumption | omega)) ?_)
     | (refine c_true rfl (by first | (simp only [Bool.not_eq_true', decide_eq_false_iff_not]; omega) | (with_reducible assumption) | (rw [decide_eq_false] <;> (first | omega | with_reducible rfl)) | (rw [decide_eq_true] <;> (first | omega | with_reducible rfl)) | (simp; done) | (simp; omega)) ?_)
     | (refine c_false rfl (by first | (simp only [Bool.not_eq_false', decide_eq_true_eq]; omega) | (with_reducible assumption) | (rw [decide_eq_false] <;> (first | omega | with_reducible rfl)) | (rw [decide_eq_true] <;> (first | omega | with_reducible rfl)) | (simp; done) | (simp; omega)) ?_)
     | refine c_cond rfl (fun hc => ?_) (fun hc => ?_)
     | refine c_condb rfl (fun hc => ?_) (fun hc => ?_)))
     | refine x_then ?_
     | refine x_then_ret ?_
     | refine x_then_exit ?_
     | refine x_block _ ?_
     | refine x_block_ret _ ?_
     | refine x_block_exit _ ?_
     | refine x_block_past (by decide) ?_
     | refine z_tailm ?_)
     | (refine z_isg0 ?_; first
     | refine z_skipu (by decide) rfl rfl ?_
     | (refine z_want0 rfl rfl (by first | with_reducible rfl | with_reducible assumption | ((with_reducible refine decide_eq_false ?_); first | with_reducible assumption | omega)) ?_)
     | (refine z_skip0 (by decide) rfl rfl (by first | with_reducible rfl | with_reducible assumption | ((with_reducible refine decide_eq_true ?_); first | with_reducible rfl | with_reducible assumption | omega)) ?_)
     | (refine z_want0 rfl rfl (by first | (simp only [Bool.not_eq_false', decide_eq_true_eq]; omega) | (with_reducible assumption) | (rw [decide_eq_false] <;> (first | omega | with_reducible rfl)) | (rw [decide_eq_true] <;> (first | omega | with_reducible rfl)) | (simp; done) | (simp; omega)) ?_)
     | (refine z_skip0 (by decide) rfl rfl (by first | (simp only [Bool.not_eq_true', decide_eq_false_iff_not]; omega) | (with_reducible assumption) | (rw [decide_eq_false] <;> (first | omega | with_reducible rfl)) | (rw [decide_eq_true] <;> (first | omega | with_reducible rfl)) | (simp; done) | (simp; omega)) ?_)
     | refine z_guard0 (by decide) rfl rfl (fun hc => ?_) (fun hc => ?_)
     | refine z_guardb (by decide) rfl rfl (fun hc => ?_) (fun hc => ?_))
     | (refine z_isnil ?_; first
     | refine z_keep1 ?_
     | refine z_list ?_
     | refine z_mixed ?_
     | refine z_mono0 ?_
     | refine z_mono1 (by decide) fun g => ?_
     | refine z_mono2 (by decide) (by decide) fun g g' => ?_
     | refine z_mixedx ?_
     | refine z_quiet ?_)
     | (refine z_isop ?_; first
     | refine o_boxa rfl rfl (by decide) fun g => ?_
     | refine o_alloca (e := 26) (vs := Cx.zero.cs) rfl (by kernel_rfl) (by decide) fun g => ?_
     | refine o_build (t := 26) (v := .agg Cx.zero.cs.toArray) rfl (fun _ => by kernel_rfl) (by decide) ?_
     | refine o_build (t := 32) (v := .agg (boCs fun _ => false).toArray) rfl (fun _ => by kernel_rfl) (by decide) ?_
     | (refine z_isbin ?_; first
     | (refine z_isb .add ?_; first
     | refine o_add rfl rfl (by omega) (by omega) (by decide) ?_
     | refine o_addw rfl rfl (by decide) ?_)
     | (refine z_isb .neq ?_; first
     | refine o_ne rfl rfl (by decide) ?_
     | refine o_bne tabOk rfl rfl rfl (by decide) ?_
     | refine o_pne tabOk rfl rfl (by decide) ?_)
     | (refine z_isb .leq ?_; first
     | refine o_le rfl rfl (by decide) ?_))
     | (refine z_isload ?_; first
     | refine o_loadp tabOk rfl rfl rfl 0 rfl (cx_len _) (rf_c _) (by decide) ?_
     | refine o_loadp tabOk rfl rfl rfl 1 rfl (cx_len _) (rf_c _) (by decide) ?_
     | refine o_loadp tabOk rfl rfl rfl 2 rfl (cx_len _) (rf_c _) (by decide) ?_
     | (refine z_ld1 tabOk rfl rfl ?_; first
     | refine o_loadm tabOk rfl rfl rfl (by repeat' (first | exact List.mem_cons_self | apply List.mem_cons_of_mem)) (by first | exact rf_g _ (by omega) | exact rf_h _ (by omega) | exact rf_b _ | exact cx_pc _ | exact cx_r _ (by omega) | rfl) (by decide) ?_
     | refine o_loads tabOk (by first | assumption | exact Rds.cons _ (by assumption) | exact Rds.cons _ (Rds.cons _ (by assumption)) | exact own_rds 0 rfl | exact own_rds 1 rfl | exact own_rds 2 rfl) rfl rfl rfl (by first | exact rf_g _ (by omega) | exact rf_h _ (by omega) | exact rf_b _ | exact cx_pc _ | exact cx_r _ (by omega) | rfl) (by decide) ?_)
     | (refine z_ldw tabOk rfl rfl ?_; first
     | refine o_loadwm tabOk rfl rfl rfl (by repeat' (first | exact List.mem_cons_self | apply List.mem_cons_of_mem)) (by first | exact rf_len _ | exact cx_len _ | exact bo_len _ | (simp only [rf_len, cx_len, bo_len]) | rfl) (by decide) ?_))
     | (refine z_isstore ?_; first
     | (refine o_storew_at rfl 0 tabOk rfl rfl rfl rfl (cx_len _) (cx_one _) (by rw [rf_len, cx_len]; decide) (rf_set_c _ _) ?_)
     | (refine o_storew_at rfl 1 tabOk rfl rfl rfl rfl (cx_len _) (cx_one _) (by rw [rf_len, cx_len]; decide) (rf_set_c _ _) ?_)
     | (refine o_storew_at rfl 2 tabOk rfl rfl rfl rfl (cx_len _) (cx_one _) (by rw [rf_len, cx_len]; decide) (rf_set_c _ _) ?_)
     | (refine o_storew_at rfl 2 tabOk rfl rfl rfl rfl (bo_len _) (bo_one _) (by rw [rf_len, bo_len]; decide) (rf_set_gs _ _) ?_)
     | refine o_storebk 0 tabOk rfl rfl rfl rfl (by first | exact rf_len _ | exact cx_len _ | exact bo_len _ | (simp only [rf_len, cx_len, bo_len]) | rfl) (by first | exact rf_one _ | exact cx_one _ | exact bo_one _ | rfl) (by first | exact rf_len _ | exact cx_len _ | exact bo_len _ | (simp only [rf_len, cx_len, bo_len]) | rfl) ?_
     | (refine z_stw rfl ?_; first
     | ((refine z_sti 0 rfl rfl ?_; refine o_storeb0 rfl tabOk rfl rfl rfl (by first | exact rf_len _ | exact cx_len _ | exact bo_len _ | (simp only [rf_len, cx_len, bo_len]) | rfl) (by first | exact rf_one _ | exact cx_one _ | exact bo_one _ | rfl) (by first | exact rf_len _ | exact cx_len _ | exact bo_len _ | (simp only [rf_len, cx_len, bo_len]) | rfl) ?_))
     | ((refine z_sti 1 rfl rfl ?_; refine o_storeb1 rfl tabOk rfl rfl rfl (by first | exact rf_len _ | exact cx_len _ | exact bo_len _ | (simp only [rf_len, cx_len, bo_len]) | rfl) (by first | exact rf_one _ | exact cx_one _ | exact bo_one _ | rfl) (by first | exact rf_len _ | exact cx_len _ | exact bo_len _ | (simp only [rf_len, cx_len, bo_len]) | rfl) ?_))
     | ((refine z_sti 2 rfl rfl ?_; refine o_storeb2 rfl tabOk rfl rfl rfl (by first | exact rf_len _ | exact cx_len _ | exact bo_len _ | (simp only [rf_len, cx_len, bo_len]) | rfl) (by first | exact rf_one _ | exact cx_one _ | exact bo_one _ | rfl) (by first | exact rf_len _ | exact cx_len _ | exact bo_len _ | (simp only [rf_len, cx_len, bo_len]) | rfl) ?_))
     | ((refine z_sti 3 rfl rfl ?_; refine o_storeb3 rfl tabOk rfl rfl rfl (by first | exact rf_len _ | exact cx_len _ | exact bo_len _ | (simp only [rf_len, cx_len, bo_len]) | rfl) (by first | exact rf_one _ | exact cx_one _ | exact bo_one _ | rfl) (by first | exact rf_len _ | exact cx_len _ | exact bo_len _ | (simp only [rf_len, cx_len, bo_len]) | rfl) ?_))
     | ((refine z_sti 4 rfl rfl ?_; refine o_storeb4 rfl tabOk rfl rfl rfl (by first | exact rf_len _ | exact cx_len _ | exact bo_len _ | (simp only [rf_len, cx_len, bo_len]) | rfl) (by first | exact rf_one _ | exact cx_one _ | exact bo_one _ | rfl) (by first | exact rf_len _ | exact cx_len _ | exact bo_len _ | (simp only [rf_len, cx_len, bo_len]) | rfl) ?_))
     | ((refine z_sti 5 rfl rfl ?_; refine o_storeb5 rfl tabOk rfl rfl rfl (by first | exact rf_len _ | exact cx_len _ | exact bo_len _ | (simp only [rf_len, cx_len, bo_len]) | rfl) (by first | exact rf_one _ | exact cx_one _ | exact bo_one _ | rfl) (by first | exact rf_len _ | exact cx_len _ | exact bo_len _ | (simp only [rf_len, cx_len, bo_len]) | rfl) ?_))
     | ((refine z_sti 6 rfl rfl ?_; refine o_storeb6 rfl tabOk rfl rfl rfl (by first | exact rf_len _ | exact cx_len _ | exact bo_len _ | (simp only [rf_len, cx_len, bo_len]) | rfl) (by first | exact rf_one _ | exact cx_one _ | exact bo_one _ | rfl) (by first | exact rf_len _ | exact cx_len _ | exact bo_len _ | (simp only [rf_len, cx_len, bo_len]) | rfl) ?_)))
     | (refine z_st1 rfl rfl ?_; first
     | refine o_store rfl tabOk rfl rfl rfl rfl rfl (by first | exact rf_g _ (by omega) | exact rf_h _ (by omega) | exact rf_b _ | exact cx_pc _ | exact cx_r _ (by omega) | rfl) (by first | exact rf_set_g _ (by omega) _ | exact rf_set_h _ (by omega) _ | exact rf_set_b _ _ | exact cx_set_pc _ _ | exact cx_set_r _ (by omega) _ | rfl) ?_
     | ((refine z_sti 1 rfl rfl ?_; refine o_store1 rfl tabOk rfl rfl rfl rfl rfl (by first | exact rf_g _ (by omega) | exact rf_h _ (by omega) | exact rf_b _ | exact cx_pc _ | exact cx_r _ (by omega) | rfl) (by first | exact rf_set_g _ (by omega) _ | exact rf_set_h _ (by omega) _ | exact rf_set_b _ _ | exact cx_set_pc _ _ | exact cx_set_r _ (by omega) _ | rfl) ?_))
     | ((refine z_sti 2 rfl rfl ?_; refine o_store2 rfl tabOk rfl rfl rfl rfl rfl (by first | exact rf_g _ (by omega) | exact rf_h _ (by omega) | exact rf_b _ | exact cx_pc _ | exact cx_r _ (by omega) | rfl) (by first | exact rf_set_g _ (by omega) _ | exact rf_set_h _ (by omega) _ | exact rf_set_b _ _ | exact cx_set_pc _ _ | exact cx_set_r _ (by omega) _ | rfl) ?_))
     | ((refine z_sti 3 rfl rfl ?_; refine o_store3 rfl tabOk rfl rfl rfl rfl rfl (by first | exact rf_g _ (by omega) | exact rf_h _ (by omega) | exact rf_b _ | exact cx_pc _ | exact cx_r _ (by omega) | rfl) (by first | exact rf_set_g _ (by omega) _ | exact rf_set_h _ (by omega) _ | exact rf_set_b _ _ | exact cx_set_pc _ _ | exact cx_set_r _ (by omega) _ | rfl) ?_))
     | ((refine z_sti 4 rfl rfl ?_; refine o_store4 rfl tabOk rfl rfl rfl rfl rfl (by first | exact rf_g _ (by omega) | exact rf_h _ (by omega) | exact rf_b _ | exact cx_pc _ | exact cx_r _ (by omega) | rfl) (by first | exact rf_set_g _ (by omega) _ | exact rf_set_h _ (by omega) _ | exact rf_set_b _ _ | exact cx_set_pc _ _ | exact cx_set_r _ (by omega) _ | rfl) ?_))
     | ((refine z_sti 5 rfl rfl ?_; refine o_store5 rfl tabOk rfl rfl rfl rfl rfl (by first | exact rf_g _ (by omega) | exact rf_h _ (by omega) | exact rf_b _ | exact cx_pc _ | exact cx_r _ (by omega) | rfl) (by first | exact rf_set_g _ (by omega) _ | exact rf_set_h _ (by omega) _ | exact rf_set_b _ _ | exact cx_set_pc _ _ | exact cx_set_r _ (by omega) _ | rfl) ?_))
     | ((refine z_sti 6 rfl rfl ?_; refine o_store6 rfl tabOk rfl rfl rfl rfl rfl (by first | exact rf_g _ (by omega) | exact rf_h _ (by omega) | exact rf_b _ | exact cx_pc _ | exact cx_r _ (by omega) | rfl) (by first | exact rf_set_g _ (by omega) _ | exact rf_set_h _ (by omega) _ | exact rf_set_b _ _ | exact cx_set_pc _ _ | exact cx_set_r _ (by omega) _ | rfl) ?_))))
     | (refine z_ispick ?_; first
     | (refine o_pick1 rfl (by first | with_reducible rfl | with_reducible assumption | ((with_reducible refine decide_eq_true ?_); first | with_reducible rfl | with_reducible assumption | omega)) rfl (by decide) ?_)
     | (refine o_pick0 rfl (by first | with_reducible rfl | with_reducible assumption | ((with_reducible refine decide_eq_false ?_); first | with_reducible assumption | omega)) rfl (by decide) ?_)
     | (refine o_pick1 rfl (by first | (simp only [Bool.not_eq_true', decide_eq_false_iff_not]; omega) | (with_reducible assumption) | (rw [decide_eq_false] <;> (first | omega | with_reducible rfl)) | (rw [decide_eq_true] <;> (first | omega | with_reducible rfl)) | (simp; done) | (simp; omega)) rfl (by decide) ?_)
     | (refine o_pick0 rfl (by first | (simp only [Bool.not_eq_false', decide_eq_true_eq]; omega) | (with_reducible assumption) | (rw [decide_eq_false] <;> (first | omega | with_reducible rfl)) | (rw [decide_eq_true] <;> (first | omega | with_reducible rfl)) | (simp; done) | (simp; omega)) rfl (by decide) ?_))
     | (refine z_isix ?_; first
     | refine o_index0 tabOk rfl rfl rfl rfl (by omega) (by omega) (by decide) ?_
     | refine o_index1 tabOk rfl rfl rfl rfl (by omega) (by omega) (by decide) ?_
     | refine o_indexsk tabOk rfl rfl rfl rfl (by omega) (by omega) (by decide) ?_
     | refine o_indexs1 tabOk (by first | assumption) rfl rfl rfl rfl (by omega) (by omega) (by decide) ?_)
     | refine o_move rfl (by decide) ?_
     | refine o_assign rfl (by decide) ?_
     | refine o_nil rfl (by decide) ?_
     | refine o_extract rfl rfl (by decide) ?_
     | refine o_not rfl (by decide) ?_
     | refine o_field0 tabOk rfl rfl rfl rfl rfl (by decide) ?_
     | refine o_field tabOk rfl rfl rfl rfl rfl (by decide) ?_
     | refine o_conv tabOk rfl rfl rfl (by decide) ?_))
  by_cases h10 : k = 9
  · subst h10
    rw [if_pos rfl]
    clear hall
    repeat' (first
     | (refine s_is ?_; first
     | refine c_keep1 (id := 17) mixed (by kernel_rfl) ?_
     | (refine s_isret ?_; first
     | exact f_r3 rfl (res_t rfl) (res_t rfl) (res_c tabOk rfl rfl rfl 0 rfl (cx_len _)) () trivial rfl (fun w h => h.sub (List.sublist_append_right [_, _] _)))
     | (refine s_isw ?_; first
     | refine c_seq ?_
     | refine c_block ?_
     | refine c_region ?_
     | refine c_mixed mixed (by kernel_rfl) ?_
     | refine c_skip ?_
     | refine c_ret ?_
     | refine c_exit ?_
     | (refine s_iscond ?_; first
     | (refine c_true rfl (by first | with_reducible rfl | with_reducible assumption | ((with_reducible refine decide_eq_true ?_); first | with_reducible rfl | with_reducible assumption | omega)) ?_)
     | (refine c_false rfl (by first | with_reducible rfl | with_reducible assumption | ((with_reducible refine decide_eq_false ?_); first | with_reducible assumption | omega)) ?_)
     | (refine c_true rfl (by first | (simp only [Bool.not_eq_true', decide_eq_false_iff_not]; omega) | (with_reducible assumption) | (rw [decide_eq_false] <;> (first | omega | with_reducible rfl)) | (rw [decide_eq_true] <;> (first | omega | with_reducible rfl)) | (simp; done) | (simp; omega)) ?_)
     | (refine c_false rfl (by first | (simp only [Bool.not_eq_false', decide_eq_true_eq]; omega) | (with_reducible assumption) | (rw [decide_eq_false] <;> (first | omega | with_reducible rfl)) | (rw [decide_eq_true] <;> (first | omega | with_reducible rfl)) | (simp; done) | (simp; omega)) ?_)
     | refine c_cond rfl (fun hc => ?_) (fun hc => ?_)
     | refine c_condb rfl (fun hc => ?_) (fun hc => ?_)))
     | refine x_then ?_
     | refine x_then_ret ?_
     | refine x_then_exit ?_
     | refine x_block _ ?_
     | refine x_block_ret _ ?_
     | refine x_block_exit _ ?_
     | refine x_block_past (by decide) ?_
     | refine z_tailm ?_)
     | (refine z_isg0 ?_; first
     | refine z_skipu (by decide) rfl rfl ?_
     | (refine z_want0 rfl rfl (by first | with_reducible rfl | with_reducible assumption | ((with_reducible refine decide_eq_false ?_); first | with_reducible assumption | omega)) ?_)
     | (refine z_skip0 (by decide) rfl rfl (by first | with_reducible rfl | with_reducible assumption | ((with_reducible refine decide_eq_true ?_); first | with_reducible rfl | with_reducible assumption | omega)) ?_)
     | (refine z_want0 rfl rfl (by first | (simp only [Bool.not_eq_false', decide_eq_true_eq]; omega) | (with_reducible assumption) | (rw [decide_eq_false] <;> (first | omega | with_reducible rfl)) | (rw [decide_eq_true] <;> (first | omega | with_reducible rfl)) | (simp; done) | (simp; omega)) ?_)
     | (refine z_skip0 (by decide) rfl rfl (by first | (simp only [Bool.not_eq_true', decide_eq_false_iff_not]; omega) | (with_reducible assumption) | (rw [decide_eq_false] <;> (first | omega | with_reducible rfl)) | (rw [decide_eq_true] <;> (first | omega | with_reducible rfl)) | (simp; done) | (simp; omega)) ?_)
     | refine z_guard0 (by decide) rfl rfl (fun hc => ?_) (fun hc => ?_)
     | refine z_guardb (by decide) rfl rfl (fun hc => ?_) (fun hc => ?_))
     | (refine z_isnil ?_; first
     | refine z_keep1 ?_
     | refine z_list ?_
     | refine z_mixed ?_
     | refine z_mono0 ?_
     | refine z_mono1 (by decide) fun g => ?_
     | refine z_mono2 (by decide) (by decide) fun g g' => ?_
     | refine z_mixedx ?_
     | refine z_quiet ?_)
     | (refine z_isop ?_; first
     | refine o_boxa rfl rfl (by decide) fun g => ?_
     | refine o_alloca (e := 26) (vs := Cx.zero.cs) rfl (by kernel_rfl) (by decide) fun g => ?_
     | refine o_build (t := 26) (v := .agg Cx.zero.cs.toArray) rfl (fun _ => by kernel_rfl) (by decide) ?_
     | refine o_build (t := 32) (v := .agg (boCs fun _ => false).toArray) rfl (fun _ => by kernel_rfl) (by decide) ?_
     | (refine z_isbin ?_; first
     | (refine z_isb .add ?_; first
     | refine o_add rfl rfl (by omega) (by omega) (by decide) ?_
     | refine o_addw rfl rfl (by decide) ?_)
     | (refine z_isb .neq ?_; first
     | refine o_ne rfl rfl (by decide) ?_
     | refine o_bne tabOk rfl rfl rfl (by decide) ?_
     | refine o_pne tabOk rfl rfl (by decide) ?_)
     | (refine z_isb .leq ?_; first
     | refine o_le rfl rfl (by decide) ?_))
     | (refine z_isload ?_; first
     | refine o_loadp tabOk rfl rfl rfl 0 rfl (cx_len _) (rf_c _) (by decide) ?_
     | refine o_loadp tabOk rfl rfl rfl 1 rfl (cx_len _) (rf_c _) (by decide) ?_
     | refine o_loadp tabOk rfl rfl rfl 2 rfl (cx_len _) (rf_c _) (by decide) ?_
     | (refine z_ld1 tabOk rfl rfl ?_; first
     | refine o_loadm tabOk rfl rfl rfl (by repeat' (first | exact List.mem_cons_self | apply List.mem_cons_of_mem)) (by first | exact rf_g _ (by omega) | exact rf_h _ (by omega) | exact rf_b _ | exact cx_pc _ | exact cx_r _ (by omega) | rfl) (by decide) ?_
     | refine o_loads tabOk (by first | assumption | exact Rds.cons _ (by assumption) | exact Rds.cons _ (Rds.cons _ (by assumption)) | exact own_rds 0 rfl | exact own_rds 1 rfl | exact own_rds 2 rfl) rfl rfl rfl (by first | exact rf_g _ (by omega) | exact rf_h _ (by omega) | exact rf_b _ | exact cx_pc _ | exact cx_r _ (by omega) | rfl) (by decide) ?_)
     | (refine z_ldw tabOk rfl rfl ?_; first
     | refine o_loadwm tabOk rfl rfl rfl (by repeat' (first | exact List.mem_cons_self | apply List.mem_cons_of_mem)) (by first | exact rf_len _ | exact cx_len _ | exact bo_len _ | (simp only [rf_len, cx_len, bo_len]) | rfl) (by decide) ?_))
     | (refine z_isstore ?_; first
     | (refine o_storew_at rfl 0 tabOk rfl rfl rfl rfl (cx_len _) (cx_one _) (by rw [rf_len, cx_len]; decide) (rf_set_c _ _) ?_)
     | (refine o_storew_at rfl 1 tabOk rfl rfl rfl rfl (cx_len _) (cx_one _) (by rw [rf_len, cx_len]; decide) (rf_set_c _ _) ?_)
     | (refine o_storew_at rfl 2 tabOk rfl rfl rfl rfl (cx_len _) (cx_one _) (by rw [rf_len, cx_len]; decide) (rf_set_c _ _) ?_)
     | (refine o_storew_at rfl 2 tabOk rfl rfl rfl rfl (bo_len _) (bo_one _) (by rw [rf_len, bo_len]; decide) (rf_set_gs _ _) ?_)
     | refine o_storebk 0 tabOk rfl rfl rfl rfl (by first | exact rf_len _ | exact cx_len _ | exact bo_len _ | (simp only [rf_len, cx_len, bo_len]) | rfl) (by first | exact rf_one _ | exact cx_one _ | exact bo_one _ | rfl) (by first | exact rf_len _ | exact cx_len _ | exact bo_len _ | (simp only [rf_len, cx_len, bo_len]) | rfl) ?_
     | (refine z_stw rfl ?_; first
     | ((refine z_sti 0 rfl rfl ?_; refine o_storeb0 rfl tabOk rfl rfl rfl (by first | exact rf_len _ | exact cx_len _ | exact bo_len _ | (simp only [rf_len, cx_len, bo_len]) | rfl) (by first | exact rf_one _ | exact cx_one _ | exact bo_one _ | rfl) (by first | exact rf_len _ | exact cx_len _ | exact bo_len _ | (simp only [rf_len, cx_len, bo_len]) | rfl) ?_))
     | ((refine z_sti 1 rfl rfl ?_; refine o_storeb1 rfl tabOk rfl rfl rfl (by first | exact rf_len _ | exact cx_len _ | exact bo_len _ | (simp only [rf_len, cx_len, bo_len]) | rfl) (by first | exact rf_one _ | exact cx_one _ | exact bo_one _ | rfl) (by first | exact rf_len _ | exact cx_len _ | exact bo_len _ | (simp only [rf_len, cx_len, bo_len]) | rfl) ?_))
     | ((refine z_sti 2 rfl rfl ?_; refine o_storeb2 rfl tabOk rfl rfl rfl (by first | exact rf_len _ | exact cx_len _ | exact bo_len _ | (simp only [rf_len, cx_len, bo_len]) | rfl) (by first | exact rf_one _ | exact cx_one _ | exact bo_one _ | rfl) (by first | exact rf_len _ | exact cx_len _ | exact bo_len _ | (simp only [rf_len, cx_len, bo_len]) | rfl) ?_))
     | ((refine z_sti 3 rfl rfl ?_; refine o_storeb3 rfl tabOk rfl rfl rfl (by first | exact rf_len _ | exact cx_len _ | exact bo_len _ | (simp only [rf_len, cx_len, bo_len]) | rfl) (by first | exact rf_one _ | exact cx_one _ | exact bo_one _ | rfl) (by first | exact rf_len _ | exact cx_len _ | exact bo_len _ | (simp only [rf_len, cx_len, bo_len]) | rfl) ?_))
     | ((refine z_sti 4 rfl rfl ?_; refine o_storeb4 rfl tabOk rfl rfl rfl (by first | exact rf_len _ | exact cx_len _ | exact bo_len _ | (simp only [rf_len, cx_len, bo_len]) | rfl) (by first | exact rf_one _ | exact cx_one _ | exact bo_one _ | rfl) (by first | exact rf_len _ | exact cx_len _ | exact bo_len _ | (simp only [rf_len, cx_len, bo_len]) | rfl) ?_))
     | ((refine z_sti 5 rfl rfl ?_; refine o_storeb5 rfl tabOk rfl rfl rfl (by first | exact rf_len _ | exact cx_len _ | exact bo_len _ | (simp only [rf_len, cx_len, bo_len]) | rfl) (by first | exact rf_one _ | exact cx_one _ | exact bo_one _ | rfl) (by first | exact rf_len _ | exact cx_len _ | exact bo_len _ | (simp only [rf_len, cx_len, bo_len]) | rfl) ?_))
     | ((refine z_sti 6 rfl rfl ?_; refine o_storeb6 rfl tabOk rfl rfl rfl (by first | exact rf_len _ | exact cx_len _ | exact bo_len _ | (simp only [rf_len, cx_len, bo_len]) | rfl) (by first | exact rf_one _ | exact cx_one _ | exact bo_one _ | rfl) (by first | exact rf_len _ | exact cx_len _ | exact bo_len _ | (simp only [rf_len, cx_len, bo_len]) | rfl) ?_)))
     | (refine z_st1 rfl rfl ?_; first
     | refine o_store rfl tabOk rfl rfl rfl rfl rfl (by first | exact rf_g _ (by omega) | exact rf_h _ (by omega) | exact rf_b _ | exact cx_pc _ | exact cx_r _ (by omega) | rfl) (by first | exact rf_set_g _ (by omega) _ | exact rf_set_h _ (by omega) _ | exact rf_set_b _ _ | exact cx_set_pc _ _ | exact cx_set_r _ (by omega) _ | rfl) ?_
     | ((refine z_sti 1 rfl rfl ?_; refine o_store1 rfl tabOk rfl rfl rfl rfl rfl (by first | exact rf_g _ (by omega) | exact rf_h _ (by omega) | exact rf_b _ | exact cx_pc _ | exact cx_r _ (by omega) | rfl) (by first | exact rf_set_g _ (by omega) _ | exact rf_set_h _ (by omega) _ | exact rf_set_b _ _ | exact cx_set_pc _ _ | exact cx_set_r _ (by omega) _ | rfl) ?_))
     | ((refine z_sti 2 rfl rfl ?_; refine o_store2 rfl tabOk rfl rfl rfl rfl rfl (by first | exact rf_g _ (by omega) | exact rf_h _ (by omega) | exact rf_b _ | exact cx_pc _ | exact cx_r _ (by omega) | rfl) (by first | exact rf_set_g _ (by omega) _ | exact rf_set_h _ (by omega) _ | exact rf_set_b _ _ | exact cx_set_pc _ _ | exact cx_set_r _ (by omega) _ | rfl) ?_))
     | ((refine z_sti 3 rfl rfl ?_; refine o_store3 rfl tabOk rfl rfl rfl rfl rfl (by first | exact rf_g _ (by omega) | exact rf_h _ (by omega) | exact rf_b _ | exact cx_pc _ | exact cx_r _ (by omega) | rfl) (by first | exact rf_set_g _ (by omega) _ | exact rf_set_h _ (by omega) _ | exact rf_set_b _ _ | exact cx_set_pc _ _ | exact cx_set_r _ (by omega) _ | rfl) ?_))
     | ((refine z_sti 4 rfl rfl ?_; refine o_store4 rfl tabOk rfl rfl rfl rfl rfl (by first | exact rf_g _ (by omega) | exact rf_h _ (by omega) | exact rf_b _ | exact cx_pc _ | exact cx_r _ (by omega) | rfl) (by first | exact rf_set_g _ (by omega) _ | exact rf_set_h _ (by omega) _ | exact rf_set_b _ _ | exact cx_set_pc _ _ | exact cx_set_r _ (by omega) _ | rfl) ?_))
     | ((refine z_sti 5 rfl rfl ?_; refine o_store5 rfl tabOk rfl rfl rfl rfl rfl (by first | exact rf_g _ (by omega) | exact rf_h _ (by omega) | exact rf_b _ | exact cx_pc _ | exact cx_r _ (by omega) | rfl) (by first | exact rf_set_g _ (by omega) _ | exact rf_set_h _ (by omega) _ | exact rf_set_b _ _ | exact cx_set_pc _ _ | exact cx_set_r _ (by omega) _ | rfl) ?_))
     | ((refine z_sti 6 rfl rfl ?_; refine o_store6 rfl tabOk rfl rfl rfl rfl rfl (by first | exact rf_g _ (by omega) | exact rf_h _ (by omega) | exact rf_b _ | exact cx_pc _ | exact cx_r _ (by omega) | rfl) (by first | exact rf_set_g _ (by omega) _ | exact rf_set_h _ (by omega) _ | exact rf_set_b _ _ | exact cx_set_pc _ _ | exact cx_set_r _ (by omega) _ | rfl) ?_))))
     | (refine z_ispick ?_; first
     | (refine o_pick1 rfl (by first | with_reducible rfl | with_reducible assumption | ((with_reducible refine decide_eq_true ?_); first | with_reducible rfl | with_reducible assumption | omega)) rfl (by decide) ?_)
     | (refine o_pick0 rfl (by first | with_reducible rfl | with_reducible assumption | ((with_reducible refine decide_eq_false ?_); first | with_reducible assumption | omega)) rfl (by decide) ?_)
     | (refine o_pick1 rfl (by first | (simp only [Bool.not_eq_true', decide_eq_false_iff_not]; omega) | (with_reducible assumption) | (rw [decide_eq_false] <;> (first | omega | with_reducible rfl)) | (rw [decide_eq_true] <;> (first | omega | with_reducible rfl)) | (simp; done) | (simp; omega)) rfl (by decide) ?_)
     | (refine o_pick0 rfl (by first | (simp only [Bool.not_eq_false', decide_eq_true_eq]; omega) | (with_reducible assumption) | (rw [decide_eq_false] <;> (first | omega | with_reducible rfl)) | (rw [decide_eq_true] <;> (first | omega | with_reducible rfl)) | (simp; done) | (simp; omega)) rfl (by decide) ?_))
     | (refine z_isix ?_; first
     | refine o_index0 tabOk rfl rfl rfl rfl (by omega) (by omega) (by decide) ?_
     | refine o_index1 tabOk rfl rfl rfl rfl (by omega) (by omega) (by decide) ?_
     | refine o_indexsk tabOk rfl rfl rfl rfl (by omega) (by omega) (by decide) ?_
     | refine o_indexs1 tabOk (by first | assumption) rfl rfl rfl rfl (by omega) (by omega) (by decide) ?_)
     | refine o_move rfl (by decide) ?_
     | refine o_assign rfl (by decide) ?_
     | refine o_nil rfl (by decide) ?_
     | refine o_extract rfl rfl (by decide) ?_
     | refine o_not rfl (by decide) ?_
     | refine o_field0 tabOk rfl rfl rfl rfl rfl (by decide) ?_
     | refine o_field tabOk rfl rfl rfl rfl rfl (by decide) ?_
     | refine o_conv tabOk rfl rfl rfl (by decide) ?_))
  · obtain rfl : k = 8 := by omega
    rw [if_neg (by decide)]
    have eg : (!r.g (8 : Int).toNat) = false := by show (!r.g 8) = false; rw [hg]; rfl
    have e4 : decide (r.h (8 : Int).toNat ≠ 0) = false := e3
    clear hall
    repeat' (first
     | (refine s_is ?_; first
     | (refine s_isagain ?_; first
     | (exact c_again 9 ⟨by omega, by omega⟩ (by decide) ⟨rfl, rfl, rfl, rfl, trivial⟩ (fun w h => by rw [if_pos rfl]; exact h)))
     | (refine s_isw ?_; first
     | refine c_seq ?_
     | refine c_block ?_
     | refine c_region ?_
     | refine c_mixed mixed (by kernel_rfl) ?_
     | refine c_skip ?_
     | refine c_ret ?_
     | refine c_exit ?_
     | (refine s_iscond ?_; first
     | (refine c_true rfl (by first | with_reducible rfl | with_reducible assumption | ((with_reducible refine decide_eq_true ?_); first | with_reducible rfl | with_reducible assumption | omega)) ?_)
     | (refine c_false rfl (by first | with_reducible rfl | with_reducible assumption | ((with_reducible refine decide_eq_false ?_); first | with_reducible assumption | omega)) ?_)
     | (refine c_true rfl (by first | (simp only [Bool.not_eq_true', decide_eq_false_iff_not]; omega) | (with_reducible assumption) | (rw [decide_eq_false] <;> (first | omega | with_reducible rfl)) | (rw [decide_eq_true] <;> (first | omega | with_reducible rfl)) | (simp; done) | (simp; omega)) ?_)
     | (refine c_false rfl (by first | (simp only [Bool.not_eq_false', decide_eq_true_eq]; omega) | (with_reducible assumption) | (rw [decide_eq_false] <;> (first | omega | with_reducible rfl)) | (rw [decide_eq_true] <;> (first | omega | with_reducible rfl)) | (simp; done) | (simp; omega)) ?_)
     | refine c_cond rfl (fun hc => ?_) (fun hc => ?_)
     | refine c_condb rfl (fun hc => ?_) (fun hc => ?_)))
     | refine x_then ?_
     | refine x_then_ret ?_
     | refine x_then_exit ?_
     | refine x_block _ ?_
     | refine x_block_ret _ ?_
     | refine x_block_exit _ ?_
     | refine x_block_past (by decide) ?_
     | refine z_tailm ?_)
     | (refine z_isg0 ?_; first
     | refine z_skipu (by decide) rfl rfl ?_
     | (refine z_want0 rfl rfl (by first | with_reducible rfl | with_reducible assumption | ((with_reducible refine decide_eq_false ?_); first | with_reducible assumption | omega)) ?_)
     | (refine z_skip0 (by decide) rfl rfl (by first | with_reducible rfl | with_reducible assumption | ((with_reducible refine decide_eq_true ?_); first | with_reducible rfl | with_reducible assumption | omega)) ?_)
     | (refine z_want0 rfl rfl (by first | (simp only [Bool.not_eq_false', decide_eq_true_eq]; omega) | (with_reducible assumption) | (rw [decide_eq_false] <;> (first | omega | with_reducible rfl)) | (rw [decide_eq_true] <;> (first | omega | with_reducible rfl)) | (simp; done) | (simp; omega)) ?_)
     | (refine z_skip0 (by decide) rfl rfl (by first | (simp only [Bool.not_eq_true', decide_eq_false_iff_not]; omega) | (with_reducible assumption) | (rw [decide_eq_false] <;> (first | omega | with_reducible rfl)) | (rw [decide_eq_true] <;> (first | omega | with_reducible rfl)) | (simp; done) | (simp; omega)) ?_)
     | refine z_guard0 (by decide) rfl rfl (fun hc => ?_) (fun hc => ?_)
     | refine z_guardb (by decide) rfl rfl (fun hc => ?_) (fun hc => ?_))
     | (refine z_isnil ?_; first
     | refine z_keep1 ?_
     | refine z_list ?_
     | refine z_mixed ?_
     | refine z_mono0 ?_
     | refine z_mono1 (by decide) fun g => ?_
     | refine z_mono2 (by decide) (by decide) fun g g' => ?_
     | refine z_mixedx ?_
     | refine z_quiet ?_)
     | (refine z_isop ?_; first
     | refine o_boxa rfl rfl (by decide) fun g => ?_
     | refine o_alloca (e := 26) (vs := Cx.zero.cs) rfl (by kernel_rfl) (by decide) fun g => ?_
     | refine o_build (t := 26) (v := .agg Cx.zero.cs.toArray) rfl (fun _ => by kernel_rfl) (by decide) ?_
     | refine o_build (t := 32) (v := .agg (boCs fun _ => false).toArray) rfl (fun _ => by kernel_rfl) (by decide) ?_
     | (refine z_isbin ?_; first
     | (refine z_isb .add ?_; first
     | refine o_add rfl rfl (by omega) (by omega) (by decide) ?_
     | refine o_addw rfl rfl (by decide) ?_)
     | (refine z_isb .neq ?_; first
     | refine o_ne rfl rfl (by decide) ?_
     | refine o_bne tabOk rfl rfl rfl (by decide) ?_
     | refine o_pne tabOk rfl rfl (by decide) ?_)
     | (refine z_isb .leq ?_; first
     | refine o_le rfl rfl (by decide) ?_))
     | (refine z_isload ?_; first
     | refine o_loadp tabOk rfl rfl rfl 0 rfl (cx_len _) (rf_c _) (by decide) ?_
     | refine o_loadp tabOk rfl rfl rfl 1 rfl (cx_len _) (rf_c _) (by decide) ?_
     | refine o_loadp tabOk rfl rfl rfl 2 rfl (cx_len _) (rf_c _) (by decide) ?_
     | (refine z_ld1 tabOk rfl rfl ?_; first
     | refine o_loadm tabOk rfl rfl rfl (by repeat' (first | exact List.mem_cons_self | apply List.mem_cons_of_mem)) (by first | exact rf_g _ (by omega) | exact rf_h _ (by omega) | exact rf_b _ | exact cx_pc _ | exact cx_r _ (by omega) | rfl) (by decide) ?_
     | refine o_loads tabOk (by first | assumption | exact Rds.cons _ (by assumption) | exact Rds.cons _ (Rds.cons _ (by assumption)) | exact own_rds 0 rfl | exact own_rds 1 rfl | exact own_rds 2 rfl) rfl rfl rfl (by first | exact rf_g _ (by omega) | exact rf_h _ (by omega) | exact rf_b _ | exact cx_pc _ | exact cx_r _ (by omega) | rfl) (by decide) ?_)
     | (refine z_ldw tabOk rfl rfl ?_; first
     | refine o_loadwm tabOk rfl rfl rfl (by repeat' (first | exact List.mem_cons_self | apply List.mem_cons_of_mem)) (by first | exact rf_len _ | exact cx_len _ | exact bo_len _ | (simp only [rf_len, cx_len, bo_len]) | rfl) (by decide) ?_))
     | (refine z_isstore ?_; first
     | (refine o_storew_at rfl 0 tabOk rfl rfl rfl rfl (cx_len _) (cx_one _) (by rw [rf_len, cx_len]; decide) (rf_set_c _ _) ?_)
     | (refine o_storew_at rfl 1 tabOk rfl rfl rfl rfl (cx_len _) (cx_one _) (by rw [rf_len, cx_len]; decide) (rf_set_c _ _) ?_)
     | (refine o_storew_at rfl 2 tabOk rfl rfl rfl rfl (cx_len _) (cx_one _) (by rw [rf_len, cx_len]; decide) (rf_set_c _ _) ?_)
     | (refine o_storew_at rfl 2 tabOk rfl rfl rfl rfl (bo_len _) (bo_one _) (by rw [rf_len, bo_len]; decide) (rf_set_gs _ _) ?_)
     | refine o_storebk 0 tabOk rfl rfl rfl rfl (by first | exact rf_len _ | exact cx_len _ | exact bo_len _ | (simp only [rf_len, cx_len, bo_len]) | rfl) (by first | exact rf_one _ | exact cx_one _ | exact bo_one _ | rfl) (by first | exact rf_len _ | exact cx_len _ | exact bo_len _ | (simp only [rf_len, cx_len, bo_len]) | rfl) ?_
     | (refine z_stw rfl ?_; first
     | ((refine z_sti 0 rfl rfl ?_; refine o_storeb0 rfl tabOk rfl rfl rfl (by first | exact rf_len _ | exact cx_len _ | exact bo_len _ | (simp only [rf_len, cx_len, bo_len]) | rfl) (by first | exact rf_one _ | exact cx_one _ | exact bo_one _ | rfl) (by first | exact rf_len _ | exact cx_len _ | exact bo_len _ | (simp only [rf_len, cx_len, bo_len]) | rfl) ?_))
     | ((refine z_sti 1 rfl rfl ?_; refine o_storeb1 rfl tabOk rfl rfl rfl (by first | exact rf_len _ | exact cx_len _ | exact bo_len _ | (simp only [rf_len, cx_len, bo_len]) | rfl) (by first | exact rf_one _ | exact cx_one _ | exact bo_one _ | rfl) (by first | exact rf_len _ | exact cx_len _ | exact bo_len _ | (simp only [rf_len, cx_len, bo_len]) | rfl) ?_))
     | ((refine z_sti 2 rfl rfl ?_; refine o_storeb2 rfl tabOk rfl rfl rfl (by first | exact rf_len _ | exact cx_len _ | exact bo_len _ | (simp only [rf_len, cx_len, bo_len]) | rfl) (by first | exact rf_one _ | exact cx_one _ | exact bo_one _ | rfl) (by first | exact rf_len _ | exact cx_len _ | exact bo_len _ | (simp only [rf_len, cx_len, bo_len]) | rfl) ?_))
     | ((refine z_sti 3 rfl rfl ?_; refine o_storeb3 rfl tabOk rfl rfl rfl (by first | exact rf_len _ | exact cx_len _ | exact bo_len _ | (simp only [rf_len, cx_len, bo_len]) | rfl) (by first | exact rf_one _ | exact cx_one _ | exact bo_one _ | rfl) (by first | exact rf_len _ | exact cx_len _ | exact bo_len _ | (simp only [rf_len, cx_len, bo_len]) | rfl) ?_))
     | ((refine z_sti 4 rfl rfl ?_; refine o_storeb4 rfl tabOk rfl rfl rfl (by first | exact rf_len _ | exact cx_len _ | exact bo_len _ | (simp only [rf_len, cx_len, bo_len]) | rfl) (by first | exact rf_one _ | exact cx_one _ | exact bo_one _ | rfl) (by first | exact rf_len _ | exact cx_len _ | exact bo_len _ | (simp only [rf_len, cx_len, bo_len]) | rfl) ?_))
     | ((refine z_sti 5 rfl rfl ?_; refine o_storeb5 rfl tabOk rfl rfl rfl (by first | exact rf_len _ | exact cx_len _ | exact bo_len _ | (simp only [rf_len, cx_len, bo_len]) | rfl) (by first | exact rf_one _ | exact cx_one _ | exact bo_one _ | rfl) (by first | exact rf_len _ | exact cx_len _ | exact bo_len _ | (simp only [rf_len, cx_len, bo_len]) | rfl) ?_))
     | ((refine z_sti 6 rfl rfl ?_; refine o_storeb6 rfl tabOk rfl rfl rfl (by first | exact rf_len _ | exact cx_len _ | exact bo_len _ | (simp only [rf_len, cx_len, bo_len]) | rfl) (by first | exact rf_one _ | exact cx_one _ | exact bo_one _ | rfl) (by first | exact rf_len _ | exact cx_len _ | exact bo_len _ | (simp only [rf_len, cx_len, bo_len]) | rfl) ?_)))
     | (refine z_st1 rfl rfl ?_; first
     | refine o_store rfl tabOk rfl rfl rfl rfl rfl (by first | exact rf_g _ (by omega) | exact rf_h _ (by omega) | exact rf_b _ | exact cx_pc _ | exact cx_r _ (by omega) | rfl) (by first | exact rf_set_g _ (by omega) _ | exact rf_set_h _ (by omega) _ | exact rf_set_b _ _ | exact cx_set_pc _ _ | exact cx_set_r _ (by omega) _ | rfl) ?_
     | ((refine z_sti 1 rfl rfl ?_; refine o_store1 rfl tabOk rfl rfl rfl rfl rfl (by first | exact rf_g _ (by omega) | exact rf_h _ (by omega) | exact rf_b _ | exact cx_pc _ | exact cx_r _ (by omega) | rfl) (by first | exact rf_set_g _ (by omega) _ | exact rf_set_h _ (by omega) _ | exact rf_set_b _ _ | exact cx_set_pc _ _ | exact cx_set_r _ (by omega) _ | rfl) ?_))
     | ((refine z_sti 2 rfl rfl ?_; refine o_store2 rfl tabOk rfl rfl rfl rfl rfl (by first | exact rf_g _ (by omega) | exact rf_h _ (by omega) | exact rf_b _ | exact cx_pc _ | exact cx_r _ (by omega) | rfl) (by first | exact rf_set_g _ (by omega) _ | exact rf_set_h _ (by omega) _ | exact rf_set_b _ _ | exact cx_set_pc _ _ | exact cx_set_r _ (by omega) _ | rfl) ?_))
     | ((refine z_sti 3 rfl rfl ?_; refine o_store3 rfl tabOk rfl rfl rfl rfl rfl (by first | exact rf_g _ (by omega) | exact rf_h _ (by omega) | exact rf_b _ | exact cx_pc _ | exact cx_r _ (by omega) | rfl) (by first | exact rf_set_g _ (by omega) _ | exact rf_set_h _ (by omega) _ | exact rf_set_b _ _ | exact cx_set_pc _ _ | exact cx_set_r _ (by omega) _ | rfl) ?_))
     | ((refine z_sti 4 rfl rfl ?_; refine o_store4 rfl tabOk rfl rfl rfl rfl rfl (by first | exact rf_g _ (by omega) | exact rf_h _ (by omega) | exact rf_b _ | exact cx_pc _ | exact cx_r _ (by omega) | rfl) (by first | exact rf_set_g _ (by omega) _ | exact rf_set_h _ (by omega) _ | exact rf_set_b _ _ | exact cx_set_pc _ _ | exact cx_set_r _ (by omega) _ | rfl) ?_))
     | ((refine z_sti 5 rfl rfl ?_; refine o_store5 rfl tabOk rfl rfl rfl rfl rfl (by first | exact rf_g _ (by omega) | exact rf_h _ (by omega) | exact rf_b _ | exact cx_pc _ | exact cx_r _ (by omega) | rfl) (by first | exact rf_set_g _ (by omega) _ | exact rf_set_h _ (by omega) _ | exact rf_set_b _ _ | exact cx_set_pc _ _ | exact cx_set_r _ (by omega) _ | rfl) ?_))
     | ((refine z_sti 6 rfl rfl ?_; refine o_store6 rfl tabOk rfl rfl rfl rfl rfl (by first | exact rf_g _ (by omega) | exact rf_h _ (by omega) | exact rf_b _ | exact cx_pc _ | exact cx_r _ (by omega) | rfl) (by first | exact rf_set_g _ (by omega) _ | exact rf_set_h _ (by omega) _ | exact rf_set_b _ _ | exact cx_set_pc _ _ | exact cx_set_r _ (by omega) _ | rfl) ?_))))
     | (refine z_ispick ?_; first
     | (refine o_pick1 rfl (by first | with_reducible rfl | with_reducible assumption | ((with_reducible refine decide_eq_true ?_); first | with_reducible rfl | with_reducible assumption | omega)) rfl (by decide) ?_)
     | (refine o_pick0 rfl (by first | with_reducible rfl | with_reducible assumption | ((with_reducible refine decide_eq_false ?_); first | with_reducible assumption | omega)) rfl (by decide) ?_)
     | (refine o_pick1 rfl (by first | (simp only [Bool.not_eq_true', decide_eq_false_iff_not]; omega) | (with_reducible assumption) | (rw [decide_eq_false] <;> (first | omega | with_reducible rfl)) | (rw [decide_eq_true] <;> (first | omega | with_reducible rfl)) | (simp; done) | (simp; omega)) rfl (by decide) ?_)
     | (refine o_pick0 rfl (by first | (simp only [Bool.not_eq_false', decide_eq_true_eq]; omega) | (with_reducible assumption) | (rw [decide_eq_false] <;> (first | omega | with_reducible rfl)) | (rw [decide_eq_true] <;> (first | omega | with_reducible rfl)) | (simp; done) | (simp; omega)) rfl (by decide) ?_))
     | (refine z_isix ?_; first
     | refine o_index0 tabOk rfl rfl rfl rfl (by omega) (by omega) (by decide) ?_
     | refine o_index1 tabOk rfl rfl rfl rfl (by omega) (by omega) (by decide) ?_
     | refine o_indexsk tabOk rfl rfl rfl rfl (by omega) (by omega) (by decide) ?_
     | refine o_indexs1 tabOk (by first | assumption) rfl rfl rfl rfl (by omega) (by omega) (by decide) ?_)
     | refine o_move rfl (by decide) ?_
     | refine o_assign rfl (by decide) ?_
     | refine o_nil rfl (by decide) ?_
     | refine o_extract rfl rfl (by decide) ?_
     | refine o_not rfl (by decide) ?_
     | refine o_field0 tabOk rfl rfl rfl rfl rfl (by decide) ?_
     | refine o_field tabOk rfl rfl rfl rfl rfl (by decide) ?_
     | refine o_conv tabOk rfl rfl rfl (by decide) ?_))


end Go.Proofs.YtjejnlfbonpfaaaDoor
