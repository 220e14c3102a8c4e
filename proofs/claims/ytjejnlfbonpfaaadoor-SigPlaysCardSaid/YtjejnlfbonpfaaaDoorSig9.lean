/-
The law's own probe.
-/
import Derived.Test.YtjejnlfbonpfaaaDoorSig8
namespace Go.Proofs.YtjejnlfbonpfaaaDoor
set_option linter.unusedVariables false
set_option linter.unusedSimpArgs false
open Eng
theorem d_pc (k n : Int) (c : Cx) : (dCs k n c)[18]? = some (.int .u32 c.pc) := d_c k n c 16 _ (cx_pc c)
def Sg.armed : Sg := { Sg.zero with h := upd Sg.zero.h (2 : Int).toNat 40 }
theorem aw1 : ((Sg.zero.raise 2).next Cx.zero).2.1 = 1 := by decide +kernel
theorem aw2 : ((Sg.zero.raise 2).next Cx.zero).2.2.1 = 2 := by decide +kernel
theorem aw3 : ((Sg.armed.raise 2).next Cx.zero).2.1 = 2 := by decide +kernel
theorem aw4 : ((Sg.armed.raise 2).next Cx.zero).2.2.2.pc = 40 := by decide +kernel
theorem set_armed : Pf Tryd.prog 12 [.agg Sg.zero.cs.toArray, .int .i64 2, .int .u32 40] (.tuple #[.agg Sg.armed.cs.toArray, .int .u32 0, .int .i64 0]) := set_yes Sg.zero 2 40 (by decide) (by decide) (by decide)
theorem re_armed : Re Sg.armed { Rf.zero with h := upd Rf.zero.h (2 : Int).toNat 40 } := re_set re_zero _ _
attribute [local irreducible] Eng.Hold Eng.Z Eng.S Eng.cells Eng.old Eng.own Sg.cs Cx.cs hsCs deB deT tzi dCs tz Sg.waits Rf.cs boCs De.cs Sg.raise Rf.raise Sg.next Sg.ret Sg.armed cxK Eng.eqB
set_option maxHeartbeats 8000000 in
theorem awake_c (fr : List Chunk) (hT : Rds fr (some ⟨0, 0, none⟩) deB) : Does Tryd.prog 8 [] fr (fun _ : Unit => True) (fun _ => .bool true) (fun _ => fr) := by
  intro w hw
  have e1 : decide ((if (1 : Int) ≤ 2 ∧ (2 : Int) ≤ 8 then (0 : Int) else 1) = 0) = true := by decide
  have e2 : decide (((Sg.zero.raise 2).next Cx.zero).2.1 = 1) = true := by rw [aw1]; rfl
  have e3 : decide (((Sg.zero.raise 2).next Cx.zero).2.2.1 = 2) = true := by rw [aw2]; rfl
  have e4 : decide (((Sg.armed.raise 2).next Cx.zero).2.1 = 2) = true := by rw [aw3]; rfl
  have e5 : decide (((Sg.armed.raise 2).next Cx.zero).2.2.2.pc = 40) = true := by rw [aw4]; rfl
  refine f_enter Tryd.func8 rfl Tryd.ntmps8 rfl hw ?_
  repeat' (first
   | (refine s_is ?_; first
   | (refine s_isret ?_; first
   | exact f_r1 rfl (res_t rfl) () trivial (by simp only [e1, e2, e3, e4, e5]) (fun w h => h.sub (List.sublist_append_right [_, _, _, _, _, _, _] fr)))
   | (refine s_isw ?_; first
   | refine c_seq ?_
   | refine c_block ?_
   | refine c_region ?_
   | refine c_mixed mixed (by kernel_rfl) ?_
   | refine c_skip ?_
   | refine c_ret ?_
   | refine c_exit ?_
   | (refine s_iscond ?_; first
   | (refine c_true rfl (by first | with_reducible rfl | with_reducible assumption | ((with_reducible refine decide_eq_true ?_); first | with_reducible rfl | with_reducible assumption | omega)) ?_)
   | (refine c_false rfl (by first | with_reducible rfl | with_reducible assumption | ((with_reducible refine decide_eq_false ?_); first | with_reducible assumption | omega)) ?_)
   | (refine c_true rfl (by first | (simp only [Bool.not_eq_true', decide_eq_false_iff_not]; omega) | (with_reducible assumption) | (rw [decide_eq_false] <;> (first | omega | with_reducible rfl)) | (rw [decide_eq_true] <;> (first | omega | with_reducible rfl)) | (simp; done) | (simp; omega)) ?_)
   | (refine c_false rfl (by first | (simp only [Bool.not_eq_false', decide_eq_true_eq]; omega) | (with_reducible assumption) | (rw [decide_eq_false] <;> (first | omega | with_reducible rfl)) | (rw [decide_eq_true] <;> (first | omega | with_reducible rfl)) | (simp; done) | (simp; omega)) ?_)
   | refine c_cond rfl (fun hc => ?_) (fun hc => ?_)
   | refine c_condb rfl (fun hc => ?_) (fun hc => ?_)))
   | refine x_then ?_
   | refine x_then_ret ?_
   | refine x_then_exit ?_
   | refine x_block _ ?_
   | refine x_block_ret _ ?_
   | refine x_block_exit _ ?_
   | refine x_block_past (by decide) ?_
   | refine z_tailm ?_)
   | (refine z_isg1 ?_; first
   | refine z_skipu (by decide) rfl rfl ?_
   | (refine z_want1 rfl rfl (by first | with_reducible rfl | with_reducible assumption | ((with_reducible refine decide_eq_true ?_); first | with_reducible rfl | with_reducible assumption | omega)) ?_)
   | (refine z_skip1 (by decide) rfl rfl (by first | with_reducible rfl | with_reducible assumption | ((with_reducible refine decide_eq_false ?_); first | with_reducible assumption | omega)) ?_)
   | (refine z_want1 rfl rfl (by first | (simp only [Bool.not_eq_true', decide_eq_false_iff_not]; omega) | (with_reducible assumption) | (rw [decide_eq_false] <;> (first | omega | with_reducible rfl)) | (rw [decide_eq_true] <;> (first | omega | with_reducible rfl)) | (simp; done) | (simp; omega)) ?_)
   | (refine z_skip1 (by decide) rfl rfl (by first | (simp only [Bool.not_eq_false', decide_eq_true_eq]; omega) | (with_reducible assumption) | (rw [decide_eq_false] <;> (first | omega | with_reducible rfl)) | (rw [decide_eq_true] <;> (first | omega | with_reducible rfl)) | (simp; done) | (simp; omega)) ?_)
   | refine z_guard1 (by decide) rfl rfl (fun hc => ?_) (fun hc => ?_)
   | refine z_guardb (by decide) rfl rfl (fun hc => ?_) (fun hc => ?_))
   | (refine z_isnil ?_; first
   | refine z_keep1 ?_
   | refine z_keep2 ?_
   | refine z_list ?_
   | refine z_mixed ?_
   | refine z_mono0 ?_
   | refine z_mono1 (by decide) fun g => ?_
   | refine z_mono2 (by decide) (by decide) fun g g' => ?_
   | refine z_mixedx ?_
   | refine z_quiet ?_)
   | (refine z_isop ?_; first
   | refine o_boxa rfl rfl (by decide) fun g => ?_
   | refine o_alloca (e := 30) (vs := Sg.zero.cs) rfl (by kernel_rfl) (by decide) fun g => ?_
   | refine o_alloca (e := 26) (vs := Cx.zero.cs) rfl (by kernel_rfl) (by decide) fun g => ?_
   | refine o_alloca (e := 40) (vs := dCs 0 0 Cx.zero) rfl (by kernel_rfl) (by decide) fun g => ?_
   | refine o_buildf (t := 40) (zs := dCs 0 0 Cx.zero) tabOk rfl rfl (by kernel_rfl) rfl (d_fill _ _ _) (by decide) ?_
   | refine o_build (t := 26) (v := .agg Cx.zero.cs.toArray) rfl (fun _ => by kernel_rfl) (by decide) ?_
   | (refine z_isbin ?_; first
   | refine o_eqa cmp40 rfl rfl (d_typed _ _ _) (d_typed _ _ _) (by decide) ?_
   | refine o_eqa cmp26 rfl rfl (cx_typed _) (cx_typed _) (by decide) ?_
   | (refine z_isb .eql ?_; first
   | refine o_eq rfl rfl (by decide) ?_
   | refine o_beq tabOk rfl rfl rfl (by decide) ?_
   | refine o_peq tabOk rfl rfl (by decide) ?_))
   | (refine z_isload ?_; first
   | refine o_loadp tabOk rfl rfl rfl 1 rfl (cx_len _) (de_c _) (by decide) ?_
   | refine o_loadp tabOk rfl rfl rfl 3 rfl (cx_len _) (de_c _) (by decide) ?_
   | (refine z_ld1 tabOk rfl rfl ?_; first
   | refine o_loadm tabOk rfl rfl rfl (by repeat' (first | exact List.mem_cons_self | apply List.mem_cons_of_mem)) (by first | exact d_pc _ _ _ | exact de_k _ | exact de_s _ | exact de_a _ | exact d_k _ _ _ | exact d_n _ _ _ | rfl) (by decide) ?_
   | refine o_loads tabOk (by first | assumption | exact Rds.cons _ (by assumption) | exact Rds.cons _ (Rds.cons _ (by assumption)) | exact own_rds 0 rfl | exact own_rds 1 rfl | exact own_rds 2 rfl) rfl rfl rfl (by first | exact d_pc _ _ _ | exact de_k _ | exact de_s _ | exact de_a _ | exact d_k _ _ _ | exact d_n _ _ _ | rfl) (by decide) ?_)
   | (refine z_ldw tabOk rfl rfl ?_; first
   | refine o_loadwm tabOk rfl rfl rfl (by repeat' (first | exact List.mem_cons_self | apply List.mem_cons_of_mem)) (by first | exact sg_len _ | exact cx_len _ | exact d_len _ _ _ | exact de_len _ | exact rf_len _ | (simp only [sg_len, cx_len, d_len, de_len, rf_len]) | rfl) (by decide) ?_))
   | (refine z_isstore ?_; first
   | refine o_storebk 0 tabOk rfl rfl rfl rfl (by first | exact sg_len _ | exact cx_len _ | exact d_len _ _ _ | exact de_len _ | exact rf_len _ | (simp only [sg_len, cx_len, d_len, de_len, rf_len]) | rfl) (by first | exact sg_one _ | exact cx_one _ | exact d_one _ _ _ | exact de_one _ | exact rf_one _ | rfl) (by first | exact sg_len _ | exact cx_len _ | exact d_len _ _ _ | exact de_len _ | exact rf_len _ | (simp only [sg_len, cx_len, d_len, de_len, rf_len]) | rfl) ?_
   | refine o_storebk 1 tabOk rfl rfl rfl rfl (by first | exact sg_len _ | exact cx_len _ | exact d_len _ _ _ | exact de_len _ | exact rf_len _ | (simp only [sg_len, cx_len, d_len, de_len, rf_len]) | rfl) (by first | exact sg_one _ | exact cx_one _ | exact d_one _ _ _ | exact de_one _ | exact rf_one _ | rfl) (by first | exact sg_len _ | exact cx_len _ | exact d_len _ _ _ | exact de_len _ | exact rf_len _ | (simp only [sg_len, cx_len, d_len, de_len, rf_len]) | rfl) ?_
   | (refine z_stw rfl ?_; first
   | ((refine z_sti 0 rfl rfl ?_; refine o_storeb0 rfl tabOk rfl rfl rfl (by first | exact sg_len _ | exact cx_len _ | exact d_len _ _ _ | exact de_len _ | exact rf_len _ | (simp only [sg_len, cx_len, d_len, de_len, rf_len]) | rfl) (by first | exact sg_one _ | exact cx_one _ | exact d_one _ _ _ | exact de_one _ | exact rf_one _ | rfl) (by first | exact sg_len _ | exact cx_len _ | exact d_len _ _ _ | exact de_len _ | exact rf_len _ | (simp only [sg_len, cx_len, d_len, de_len, rf_len]) | rfl) ?_))
   | ((refine z_sti 1 rfl rfl ?_; refine o_storeb1 rfl tabOk rfl rfl rfl (by first | exact sg_len _ | exact cx_len _ | exact d_len _ _ _ | exact de_len _ | exact rf_len _ | (simp only [sg_len, cx_len, d_len, de_len, rf_len]) | rfl) (by first | exact sg_one _ | exact cx_one _ | exact d_one _ _ _ | exact de_one _ | exact rf_one _ | rfl) (by first | exact sg_len _ | exact cx_len _ | exact d_len _ _ _ | exact de_len _ | exact rf_len _ | (simp only [sg_len, cx_len, d_len, de_len, rf_len]) | rfl) ?_))
   | ((refine z_sti 2 rfl rfl ?_; refine o_storeb2 rfl tabOk rfl rfl rfl (by first | exact sg_len _ | exact cx_len _ | exact d_len _ _ _ | exact de_len _ | exact rf_len _ | (simp only [sg_len, cx_len, d_len, de_len, rf_len]) | rfl) (by first | exact sg_one _ | exact cx_one _ | exact d_one _ _ _ | exact de_one _ | exact rf_one _ | rfl) (by first | exact sg_len _ | exact cx_len _ | exact d_len _ _ _ | exact de_len _ | exact rf_len _ | (simp only [sg_len, cx_len, d_len, de_len, rf_len]) | rfl) ?_))
   | ((refine z_sti 3 rfl rfl ?_; refine o_storeb3 rfl tabOk rfl rfl rfl (by first | exact sg_len _ | exact cx_len _ | exact d_len _ _ _ | exact de_len _ | exact rf_len _ | (simp only [sg_len, cx_len, d_len, de_len, rf_len]) | rfl) (by first | exact sg_one _ | exact cx_one _ | exact d_one _ _ _ | exact de_one _ | exact rf_one _ | rfl) (by first | exact sg_len _ | exact cx_len _ | exact d_len _ _ _ | exact de_len _ | exact rf_len _ | (simp only [sg_len, cx_len, d_len, de_len, rf_len]) | rfl) ?_))
   | ((refine z_sti 4 rfl rfl ?_; refine o_storeb4 rfl tabOk rfl rfl rfl (by first | exact sg_len _ | exact cx_len _ | exact d_len _ _ _ | exact de_len _ | exact rf_len _ | (simp only [sg_len, cx_len, d_len, de_len, rf_len]) | rfl) (by first | exact sg_one _ | exact cx_one _ | exact d_one _ _ _ | exact de_one _ | exact rf_one _ | rfl) (by first | exact sg_len _ | exact cx_len _ | exact d_len _ _ _ | exact de_len _ | exact rf_len _ | (simp only [sg_len, cx_len, d_len, de_len, rf_len]) | rfl) ?_))
   | ((refine z_sti 5 rfl rfl ?_; refine o_storeb5 rfl tabOk rfl rfl rfl (by first | exact sg_len _ | exact cx_len _ | exact d_len _ _ _ | exact de_len _ | exact rf_len _ | (simp only [sg_len, cx_len, d_len, de_len, rf_len]) | rfl) (by first | exact sg_one _ | exact cx_one _ | exact d_one _ _ _ | exact de_one _ | exact rf_one _ | rfl) (by first | exact sg_len _ | exact cx_len _ | exact d_len _ _ _ | exact de_len _ | exact rf_len _ | (simp only [sg_len, cx_len, d_len, de_len, rf_len]) | rfl) ?_))
   | ((refine z_sti 6 rfl rfl ?_; refine o_storeb6 rfl tabOk rfl rfl rfl (by first | exact sg_len _ | exact cx_len _ | exact d_len _ _ _ | exact de_len _ | exact rf_len _ | (simp only [sg_len, cx_len, d_len, de_len, rf_len]) | rfl) (by first | exact sg_one _ | exact cx_one _ | exact d_one _ _ _ | exact de_one _ | exact rf_one _ | rfl) (by first | exact sg_len _ | exact cx_len _ | exact d_len _ _ _ | exact de_len _ | exact rf_len _ | (simp only [sg_len, cx_len, d_len, de_len, rf_len]) | rfl) ?_)))
   | (refine z_st1 rfl rfl ?_; first
   | refine o_store rfl tabOk rfl rfl rfl rfl rfl (by first | exact d_pc _ _ _ | exact de_k _ | exact de_s _ | exact de_a _ | exact d_k _ _ _ | exact d_n _ _ _ | rfl) (by first | rfl) ?_
   | ((refine z_sti 1 rfl rfl ?_; refine o_store1 rfl tabOk rfl rfl rfl rfl rfl (by first | exact d_pc _ _ _ | exact de_k _ | exact de_s _ | exact de_a _ | exact d_k _ _ _ | exact d_n _ _ _ | rfl) (by first | rfl) ?_))
   | ((refine z_sti 2 rfl rfl ?_; refine o_store2 rfl tabOk rfl rfl rfl rfl rfl (by first | exact d_pc _ _ _ | exact de_k _ | exact de_s _ | exact de_a _ | exact d_k _ _ _ | exact d_n _ _ _ | rfl) (by first | rfl) ?_))
   | ((refine z_sti 3 rfl rfl ?_; refine o_store3 rfl tabOk rfl rfl rfl rfl rfl (by first | exact d_pc _ _ _ | exact de_k _ | exact de_s _ | exact de_a _ | exact d_k _ _ _ | exact d_n _ _ _ | rfl) (by first | rfl) ?_))
   | ((refine z_sti 4 rfl rfl ?_; refine o_store4 rfl tabOk rfl rfl rfl rfl rfl (by first | exact d_pc _ _ _ | exact de_k _ | exact de_s _ | exact de_a _ | exact d_k _ _ _ | exact d_n _ _ _ | rfl) (by first | rfl) ?_))
   | ((refine z_sti 5 rfl rfl ?_; refine o_store5 rfl tabOk rfl rfl rfl rfl rfl (by first | exact d_pc _ _ _ | exact de_k _ | exact de_s _ | exact de_a _ | exact d_k _ _ _ | exact d_n _ _ _ | rfl) (by first | rfl) ?_))
   | ((refine z_sti 6 rfl rfl ?_; refine o_store6 rfl tabOk rfl rfl rfl rfl rfl (by first | exact d_pc _ _ _ | exact de_k _ | exact de_s _ | exact de_a _ | exact d_k _ _ _ | exact d_n _ _ _ | rfl) (by first | rfl) ?_))))
   | (refine z_iscall ?_; first
   | ((refine z_iscallf 12 ?_; refine o_fn rfl Tryd.func12 rfl rfl rfl set_armed (by decide) ?_))
   | ((refine z_iscallf 7 ?_; refine o_calla Tryd.func7 rfl rfl rfl (next_c _ _ _ (by repeat (first | exact hT | apply Rds.cons)) (next_z (re_raise re_zero _))) (by decide) fun _ _ => ?_))
   | ((refine z_iscallf 7 ?_; refine o_calla Tryd.func7 rfl rfl rfl (next_c _ _ _ (by repeat (first | exact hT | apply Rds.cons)) (next_z (re_raise re_armed _))) (by decide) fun _ _ => ?_))
   | ((refine z_iscallf 9 ?_; refine o_fn rfl Tryd.func9 rfl rfl rfl (raise_fn _ _) (by decide) ?_)))
   | (refine z_ispick ?_; first
   | (refine o_pick1 rfl (by first | with_reducible rfl | with_reducible assumption | ((with_reducible refine decide_eq_true ?_); first | with_reducible rfl | with_reducible assumption | omega)) rfl (by decide) ?_)
   | (refine o_pick0 rfl (by first | with_reducible rfl | with_reducible assumption | ((with_reducible refine decide_eq_false ?_); first | with_reducible assumption | omega)) rfl (by decide) ?_)
   | (refine o_pick1 rfl (by first | (simp only [Bool.not_eq_true', decide_eq_false_iff_not]; omega) | (with_reducible assumption) | (rw [decide_eq_false] <;> (first | omega | with_reducible rfl)) | (rw [decide_eq_true] <;> (first | omega | with_reducible rfl)) | (simp; done) | (simp; omega)) rfl (by decide) ?_)
   | (refine o_pick0 rfl (by first | (simp only [Bool.not_eq_false', decide_eq_true_eq]; omega) | (with_reducible assumption) | (rw [decide_eq_false] <;> (first | omega | with_reducible rfl)) | (rw [decide_eq_true] <;> (first | omega | with_reducible rfl)) | (simp; done) | (simp; omega)) rfl (by decide) ?_))
   | refine o_move rfl (by decide) ?_
   | refine o_assign rfl (by decide) ?_
   | refine o_nil rfl (by decide) ?_
   | refine o_extract rfl rfl (by decide) ?_
   | refine o_not rfl (by decide) ?_
   | refine o_field0 tabOk rfl rfl rfl rfl rfl (by decide) ?_
   | refine o_field tabOk rfl rfl rfl rfl rfl (by decide) ?_
   | refine o_conv tabOk rfl rfl rfl (by decide) ?_))
end Go.Proofs.YtjejnlfbonpfaaaDoor
