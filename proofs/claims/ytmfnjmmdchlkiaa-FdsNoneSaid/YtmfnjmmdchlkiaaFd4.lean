/-
The law's own probe; the law of none.
-/
import Derived.Test.YtmfnjmmdchlkiaaFd3
namespace Go.Proofs.Ytmfnjmmdchlkiaa
set_option linter.unusedVariables false
set_option linter.unusedSimpArgs false
open Eng
/-- A deed. -/
def fdd (k t f n a b c : Int) : List Value := .int .i64 k :: .int .i64 t :: .int .i64 f :: .int .i64 n :: op3 a b c
theorem fdd_len (k t f n a b c : Int) : (fdd k t f n a b c).length = 7 := rfl
theorem fdd_2 (k t f n a b c : Int) : (fdd k t f n a b c)[2]? = some (.int .i64 f) := rfl
theorem fdd_3 (k t f n a b c : Int) : (fdd k t f n a b c)[3]? = some (.int .i64 n) := rfl
theorem fdd_4 (k t f n a b c : Int) : (fdd k t f n a b c)[4]? = some (.int .i64 a) := rfl
theorem fdd_5 (k t f n a b c : Int) : (fdd k t f n a b c)[5]? = some (.int .i64 b) := rfl
theorem fdd_o (k t f n a b c : Int) : ∀ (j : Nat) u, (op3 a b c)[j]? = some u → (fdd k t f n a b c)[4 + j]? = some u := fun j u h => by
  have hj : j < 3 := (List.getElem?_eq_some_iff.1 h).1
  match j, hj with
  | 0, _ => exact h
  | 1, _ => exact h
  | 2, _ => exact h
attribute [local irreducible] Eng.Hold Eng.Z Eng.S Eng.cells Eng.old Eng.own tb op3 fl
attribute [local irreducible] rl fdd
theorem build83 (w : World) : (Instr.build 83 #[(0, .int .i64 1), (1, .int .i64 3)]).run Try.prog w = .ok (.agg (op3 1 3 0).toArray) w := by kernel_rfl
set_option maxHeartbeats 2000000 in
theorem awake_f : Pf Try.prog 47 [] (.bool true) := by
  intro w hw
  refine f_enter Try.func47 rfl Try.ntmps47 rfl hw ?_
  repeat' (first
   | (refine s_is ?_; first
   | (refine s_isret ?_; first
   | (exact p_r1 rfl (res_t (by show some (Value.bool _) = some (Value.bool true); rw [tb_same]))))
   | (refine s_isw ?_; first
   | refine c_seq ?_
   | refine c_block ?_
   | refine c_region ?_
   | refine c_mixed mixed (by kernel_rfl) ?_
   | refine c_skip ?_
   | refine c_ret ?_
   | refine c_exit ?_
   | (refine s_iscond ?_; first
   | (refine c_true rfl (by first | with_reducible rfl | with_reducible assumption | ((with_reducible refine decide_eq_true ?_); first | with_reducible rfl | with_reducible assumption | omega)) ?_)
   | (refine c_false rfl (by first | with_reducible rfl | with_reducible assumption | ((with_reducible refine decide_eq_false ?_); first | with_reducible assumption | omega)) ?_)
   | (refine c_true rfl (by first | (simp only [Bool.not_eq_true', decide_eq_false_iff_not]; omega) | (with_reducible assumption) | (rw [decide_eq_false] <;> (first | omega | with_reducible rfl)) | (rw [decide_eq_true] <;> (first | omega | with_reducible rfl)) | (simp; done) | (simp; omega)) ?_)
   | (refine c_false rfl (by first | (simp only [Bool.not_eq_false', decide_eq_true_eq]; omega) | (with_reducible assumption) | (rw [decide_eq_false] <;> (first | omega | with_reducible rfl)) | (rw [decide_eq_true] <;> (first | omega | with_reducible rfl)) | (simp; done) | (simp; omega)) ?_)
   | refine c_cond rfl (fun hc => ?_) (fun hc => ?_)
   | refine c_condb rfl (fun hc => ?_) (fun hc => ?_)))
   | refine x_then ?_
   | refine x_then_ret ?_
   | refine x_then_exit ?_
   | refine x_block _ ?_
   | refine x_block_ret _ ?_
   | refine x_block_exit _ ?_
   | refine x_block_past (by decide) ?_
   | refine z_tailm ?_)
   | (refine z_isg1 ?_; first
   | refine z_skipu (by decide) rfl rfl ?_
   | (refine z_want1 rfl rfl (by first | with_reducible rfl | with_reducible assumption | ((with_reducible refine decide_eq_true ?_); first | with_reducible rfl | with_reducible assumption | omega)) ?_)
   | (refine z_skip1 (by decide) rfl rfl (by first | with_reducible rfl | with_reducible assumption | ((with_reducible refine decide_eq_false ?_); first | with_reducible assumption | omega)) ?_)
   | (refine z_want1 rfl rfl (by first | (simp only [Bool.not_eq_true', decide_eq_false_iff_not]; omega) | (with_reducible assumption) | (rw [decide_eq_false] <;> (first | omega | with_reducible rfl)) | (rw [decide_eq_true] <;> (first | omega | with_reducible rfl)) | (simp; done) | (simp; omega)) ?_)
   | (refine z_skip1 (by decide) rfl rfl (by first | (simp only [Bool.not_eq_false', decide_eq_true_eq]; omega) | (with_reducible assumption) | (rw [decide_eq_false] <;> (first | omega | with_reducible rfl)) | (rw [decide_eq_true] <;> (first | omega | with_reducible rfl)) | (simp; done) | (simp; omega)) ?_)
   | refine z_guard1 (by decide) rfl rfl (fun hc => ?_) (fun hc => ?_)
   | refine z_guardb (by decide) rfl rfl (fun hc => ?_) (fun hc => ?_))
   | (refine z_isnil ?_; first
   | refine z_list ?_
   | refine z_mixed ?_
   | refine z_mono0 ?_
   | refine z_mono1 (by decide) fun g => ?_
   | refine z_mono2 (by decide) (by decide) fun g g' => ?_
   | refine z_mixedx ?_
   | refine z_quiet ?_)
   | (refine z_isop ?_; first
   | refine o_boxa rfl rfl (by decide) fun g => ?_
   | refine o_alloca (e := 80) (vs := tb 0 0) rfl (by kernel_rfl) (by decide) fun g => ?_
   | refine o_alloca (e := 83) (vs := op3 0 0 0) rfl (by kernel_rfl) (by decide) fun g => ?_
   | refine o_build0 (t := 83) (v := .agg (op3 0 0 0).toArray) (fun _ => by kernel_rfl) (by decide) ?_
   | refine o_build0 (t := 80) (v := .agg (tb 0 0).toArray) (fun _ => by kernel_rfl) (by decide) ?_
   | refine o_build (t := 83) rfl build83 (by decide) ?_
   | refine o_build0 (t := 117) (v := .agg (fl 0 0 0 0).toArray) (fun _ => by kernel_rfl) (by decide) ?_
   | (refine z_isbin ?_; first
   | refine o_eqa cmp80 rfl rfl (tb_typed _ _) (tb_typed _ _) (by decide) ?_
   | (refine z_isb .eql ?_; first
   | refine o_eq rfl rfl (by decide) ?_
   | refine o_beq tabOk rfl rfl rfl (by decide) ?_
   | refine o_peq tabOk rfl rfl (by decide) ?_))
   | (refine z_isload ?_; first
   | (refine z_ld1 tabOk rfl rfl ?_; first
   | refine o_loadm tabOk rfl rfl rfl (by repeat' (first | exact List.mem_cons_self | apply List.mem_cons_of_mem)) (by first | exact tb_0 _ _ | exact tb_1 _ _ | exact tb_l0 _ _ | exact tb_l1 _ _ | exact op_0 _ _ _ | exact op_1 _ _ _ | exact op_2 _ _ _ | exact fdd_2 _ _ _ _ _ _ _ | exact fdd_3 _ _ _ _ _ _ _ | exact fdd_4 _ _ _ _ _ _ _ | exact fdd_5 _ _ _ _ _ _ _ | rfl) (by decide) ?_
   | refine o_loads tabOk (by first | assumption | exact Rds.cons _ (by assumption) | exact Rds.cons _ (Rds.cons _ (by assumption)) | exact own_rds 0 rfl | exact own_rds 1 rfl | exact own_rds 2 rfl) rfl rfl rfl (by first | exact tb_0 _ _ | exact tb_1 _ _ | exact tb_l0 _ _ | exact tb_l1 _ _ | exact op_0 _ _ _ | exact op_1 _ _ _ | exact op_2 _ _ _ | exact fdd_2 _ _ _ _ _ _ _ | exact fdd_3 _ _ _ _ _ _ _ | exact fdd_4 _ _ _ _ _ _ _ | exact fdd_5 _ _ _ _ _ _ _ | rfl) (by decide) ?_)
   | (refine z_ldw tabOk rfl rfl ?_; first
   | (refine o_loadwm tabOk rfl rfl rfl (by repeat' (first | exact List.mem_cons_self | apply List.mem_cons_of_mem)) (by first | exact tb_len _ _ | exact op_len _ _ _ | exact fl_len _ _ _ _ | exact fdd_len _ _ _ _ _ _ _ | (simp only [tb_len, op_len, fl_len, fdd_len]; done) | rfl) (by decide) ?_)))
   | (refine z_isstore ?_; first
   | (refine z_stw rfl ?_; first
   | ((refine z_sti 0 rfl rfl ?_; refine o_storeb0 rfl tabOk rfl rfl rfl (by first | exact tb_len _ _ | exact op_len _ _ _ | exact fl_len _ _ _ _ | exact fdd_len _ _ _ _ _ _ _ | (simp only [tb_len, op_len, fl_len, fdd_len]; done) | rfl) (by first | exact tb_one _ _ | exact op_one _ _ _ | exact fl_one _ _ _ _ | rfl) (by first | exact tb_len _ _ | exact op_len _ _ _ | exact fl_len _ _ _ _ | exact fdd_len _ _ _ _ _ _ _ | (simp only [tb_len, op_len, fl_len, fdd_len]; done) | rfl) ?_))
   | ((refine z_sti 1 rfl rfl ?_; refine o_storeb1 rfl tabOk rfl rfl rfl (by first | exact tb_len _ _ | exact op_len _ _ _ | exact fl_len _ _ _ _ | exact fdd_len _ _ _ _ _ _ _ | (simp only [tb_len, op_len, fl_len, fdd_len]; done) | rfl) (by first | exact tb_one _ _ | exact op_one _ _ _ | exact fl_one _ _ _ _ | rfl) (by first | exact tb_len _ _ | exact op_len _ _ _ | exact fl_len _ _ _ _ | exact fdd_len _ _ _ _ _ _ _ | (simp only [tb_len, op_len, fl_len, fdd_len]; done) | rfl) ?_))
   | ((refine z_sti 2 rfl rfl ?_; refine o_storeb2 rfl tabOk rfl rfl rfl (by first | exact tb_len _ _ | exact op_len _ _ _ | exact fl_len _ _ _ _ | exact fdd_len _ _ _ _ _ _ _ | (simp only [tb_len, op_len, fl_len, fdd_len]; done) | rfl) (by first | exact tb_one _ _ | exact op_one _ _ _ | exact fl_one _ _ _ _ | rfl) (by first | exact tb_len _ _ | exact op_len _ _ _ | exact fl_len _ _ _ _ | exact fdd_len _ _ _ _ _ _ _ | (simp only [tb_len, op_len, fl_len, fdd_len]; done) | rfl) ?_))
   | ((refine z_sti 3 rfl rfl ?_; refine o_storeb3 rfl tabOk rfl rfl rfl (by first | exact tb_len _ _ | exact op_len _ _ _ | exact fl_len _ _ _ _ | exact fdd_len _ _ _ _ _ _ _ | (simp only [tb_len, op_len, fl_len, fdd_len]; done) | rfl) (by first | exact tb_one _ _ | exact op_one _ _ _ | exact fl_one _ _ _ _ | rfl) (by first | exact tb_len _ _ | exact op_len _ _ _ | exact fl_len _ _ _ _ | exact fdd_len _ _ _ _ _ _ _ | (simp only [tb_len, op_len, fl_len, fdd_len]; done) | rfl) ?_))
   | ((refine z_sti 4 rfl rfl ?_; refine o_storeb4 rfl tabOk rfl rfl rfl (by first | exact tb_len _ _ | exact op_len _ _ _ | exact fl_len _ _ _ _ | exact fdd_len _ _ _ _ _ _ _ | (simp only [tb_len, op_len, fl_len, fdd_len]; done) | rfl) (by first | exact tb_one _ _ | exact op_one _ _ _ | exact fl_one _ _ _ _ | rfl) (by first | exact tb_len _ _ | exact op_len _ _ _ | exact fl_len _ _ _ _ | exact fdd_len _ _ _ _ _ _ _ | (simp only [tb_len, op_len, fl_len, fdd_len]; done) | rfl) ?_))
   | ((refine z_sti 5 rfl rfl ?_; refine o_storeb5 rfl tabOk rfl rfl rfl (by first | exact tb_len _ _ | exact op_len _ _ _ | exact fl_len _ _ _ _ | exact fdd_len _ _ _ _ _ _ _ | (simp only [tb_len, op_len, fl_len, fdd_len]; done) | rfl) (by first | exact tb_one _ _ | exact op_one _ _ _ | exact fl_one _ _ _ _ | rfl) (by first | exact tb_len _ _ | exact op_len _ _ _ | exact fl_len _ _ _ _ | exact fdd_len _ _ _ _ _ _ _ | (simp only [tb_len, op_len, fl_len, fdd_len]; done) | rfl) ?_))
   | ((refine z_sti 6 rfl rfl ?_; refine o_storeb6 rfl tabOk rfl rfl rfl (by first | exact tb_len _ _ | exact op_len _ _ _ | exact fl_len _ _ _ _ | exact fdd_len _ _ _ _ _ _ _ | (simp only [tb_len, op_len, fl_len, fdd_len]; done) | rfl) (by first | exact tb_one _ _ | exact op_one _ _ _ | exact fl_one _ _ _ _ | rfl) (by first | exact tb_len _ _ | exact op_len _ _ _ | exact fl_len _ _ _ _ | exact fdd_len _ _ _ _ _ _ _ | (simp only [tb_len, op_len, fl_len, fdd_len]; done) | rfl) ?_)))
   | (refine z_st1 rfl rfl ?_; first
   | refine o_store rfl tabOk rfl rfl rfl rfl rfl (by first | exact tb_0 _ _ | exact tb_1 _ _ | exact tb_l0 _ _ | exact tb_l1 _ _ | exact op_0 _ _ _ | exact op_1 _ _ _ | exact op_2 _ _ _ | exact fdd_2 _ _ _ _ _ _ _ | exact fdd_3 _ _ _ _ _ _ _ | exact fdd_4 _ _ _ _ _ _ _ | exact fdd_5 _ _ _ _ _ _ _ | rfl) (by first | rfl) ?_
   | ((refine z_sti 1 rfl rfl ?_; refine o_store1 rfl tabOk rfl rfl rfl rfl rfl (by first | exact tb_0 _ _ | exact tb_1 _ _ | exact tb_l0 _ _ | exact tb_l1 _ _ | exact op_0 _ _ _ | exact op_1 _ _ _ | exact op_2 _ _ _ | exact fdd_2 _ _ _ _ _ _ _ | exact fdd_3 _ _ _ _ _ _ _ | exact fdd_4 _ _ _ _ _ _ _ | exact fdd_5 _ _ _ _ _ _ _ | rfl) (by first | rfl) ?_))
   | ((refine z_sti 2 rfl rfl ?_; refine o_store2 rfl tabOk rfl rfl rfl rfl rfl (by first | exact tb_0 _ _ | exact tb_1 _ _ | exact tb_l0 _ _ | exact tb_l1 _ _ | exact op_0 _ _ _ | exact op_1 _ _ _ | exact op_2 _ _ _ | exact fdd_2 _ _ _ _ _ _ _ | exact fdd_3 _ _ _ _ _ _ _ | exact fdd_4 _ _ _ _ _ _ _ | exact fdd_5 _ _ _ _ _ _ _ | rfl) (by first | rfl) ?_))
   | ((refine z_sti 3 rfl rfl ?_; refine o_store3 rfl tabOk rfl rfl rfl rfl rfl (by first | exact tb_0 _ _ | exact tb_1 _ _ | exact tb_l0 _ _ | exact tb_l1 _ _ | exact op_0 _ _ _ | exact op_1 _ _ _ | exact op_2 _ _ _ | exact fdd_2 _ _ _ _ _ _ _ | exact fdd_3 _ _ _ _ _ _ _ | exact fdd_4 _ _ _ _ _ _ _ | exact fdd_5 _ _ _ _ _ _ _ | rfl) (by first | rfl) ?_))
   | ((refine z_sti 4 rfl rfl ?_; refine o_store4 rfl tabOk rfl rfl rfl rfl rfl (by first | exact tb_0 _ _ | exact tb_1 _ _ | exact tb_l0 _ _ | exact tb_l1 _ _ | exact op_0 _ _ _ | exact op_1 _ _ _ | exact op_2 _ _ _ | exact fdd_2 _ _ _ _ _ _ _ | exact fdd_3 _ _ _ _ _ _ _ | exact fdd_4 _ _ _ _ _ _ _ | exact fdd_5 _ _ _ _ _ _ _ | rfl) (by first | rfl) ?_))
   | ((refine z_sti 5 rfl rfl ?_; refine o_store5 rfl tabOk rfl rfl rfl rfl rfl (by first | exact tb_0 _ _ | exact tb_1 _ _ | exact tb_l0 _ _ | exact tb_l1 _ _ | exact op_0 _ _ _ | exact op_1 _ _ _ | exact op_2 _ _ _ | exact fdd_2 _ _ _ _ _ _ _ | exact fdd_3 _ _ _ _ _ _ _ | exact fdd_4 _ _ _ _ _ _ _ | exact fdd_5 _ _ _ _ _ _ _ | rfl) (by first | rfl) ?_))
   | ((refine z_sti 6 rfl rfl ?_; refine o_store6 rfl tabOk rfl rfl rfl rfl rfl (by first | exact tb_0 _ _ | exact tb_1 _ _ | exact tb_l0 _ _ | exact tb_l1 _ _ | exact op_0 _ _ _ | exact op_1 _ _ _ | exact op_2 _ _ _ | exact fdd_2 _ _ _ _ _ _ _ | exact fdd_3 _ _ _ _ _ _ _ | exact fdd_4 _ _ _ _ _ _ _ | exact fdd_5 _ _ _ _ _ _ _ | rfl) (by first | rfl) ?_))))
   | (refine z_iscall ?_; first
   | ((refine z_iscallf 36 ?_; refine z_front rfl 1 rfl ?_; refine o_call Try.func36 rfl rfl rfl (open_1 _) (List.Perm.refl _) (by decide) fun _ _ => ?_))
   | ((refine z_iscallf 38 ?_; refine o_call Try.func38 rfl rfl rfl (dup_1 _) (List.Perm.refl _) (by decide) fun _ _ => ?_))
   | ((refine z_iscallf 39 ?_; refine z_isdst 34 ?_; refine o_call Try.func39 rfl rfl rfl (close_1 _) (List.Perm.refl _) (by decide) fun _ _ => ?_))
   | ((refine z_iscallf 39 ?_; refine z_isdst 42 ?_; refine z_front rfl 1 rfl ?_; refine o_call Try.func39 rfl rfl rfl (close_2 _) (List.Perm.refl _) (by decide) fun _ _ => ?_))
   | ((refine z_iscallf 45 ?_; refine z_front rfl 1 rfl ?_; refine o_call Try.func45 rfl rfl rfl (len_1 _) (List.Perm.refl _) (by decide) fun _ _ => ?_)))
   | (refine z_ispick ?_; first
   | (refine o_pick1 rfl (by first | with_reducible rfl | with_reducible assumption | ((with_reducible refine decide_eq_true ?_); first | with_reducible rfl | with_reducible assumption | omega)) rfl (by decide) ?_)
   | (refine o_pick0 rfl (by first | with_reducible rfl | with_reducible assumption | ((with_reducible refine decide_eq_false ?_); first | with_reducible assumption | omega)) rfl (by decide) ?_)
   | (refine o_pick1 rfl (by first | (simp only [Bool.not_eq_true', decide_eq_false_iff_not]; omega) | (with_reducible assumption) | (rw [decide_eq_false] <;> (first | omega | with_reducible rfl)) | (rw [decide_eq_true] <;> (first | omega | with_reducible rfl)) | (simp; done) | (simp; omega)) rfl (by decide) ?_)
   | (refine o_pick0 rfl (by first | (simp only [Bool.not_eq_false', decide_eq_true_eq]; omega) | (with_reducible assumption) | (rw [decide_eq_false] <;> (first | omega | with_reducible rfl)) | (rw [decide_eq_true] <;> (first | omega | with_reducible rfl)) | (simp; done) | (simp; omega)) rfl (by decide) ?_))
   | refine o_move rfl (by decide) ?_
   | refine o_assign rfl (by decide) ?_
   | refine o_nil rfl (by decide) ?_
   | refine o_extract rfl rfl (by decide) ?_
   | refine o_not rfl (by decide) ?_
   | refine o_field0 tabOk rfl rfl rfl rfl rfl (by decide) ?_
   | refine o_field tabOk rfl rfl rfl rfl rfl (by decide) ?_
   | refine o_conv tabOk rfl rfl rfl (by decide) ?_))
set_option maxHeartbeats 2000000 in
theorem fdsNone (k t f n a b c : Int) (fr : List Chunk) : Does Try.prog 10 [.agg (fdd k t f n a b c).toArray] fr (fun _ : Unit => True) (fun _ => .bool true) (fun _ => fr) := by
  intro w hw
  have ht : eqB (tb 0 0) (tb 0 0) = true := tb_same 0 0
  refine f_enter Try.func10 rfl Try.ntmps10 rfl hw ?_
  repeat' (first
   | (refine s_is ?_; first
   | (refine c_free0 ⟨[], [5]⟩ [0, 1, 2, 3, 4, 5, 6, 7, 8, 9, 10, 11, 12, 13] (id := 3) mixed (by kernel_rfl) ?_)
   | (refine c_free0 ⟨[], [5]⟩ [0, 1, 2, 3, 4, 5, 6, 7, 8, 9, 10, 11, 12, 13] (id := 3) mixed (by kernel_rfl) ?_)
   | (refine s_isret ?_; first
   | exact f_r1 rfl (res_t rfl) () trivial rfl (fun w h => h.sub (List.sublist_append_right [_, _, _, _, _, _, _] _)))
   | (refine s_isw ?_; first
   | refine c_seq ?_
   | refine c_block ?_
   | refine c_region ?_
   | refine c_mixed mixed (by kernel_rfl) ?_
   | refine c_skip ?_
   | refine c_ret ?_
   | refine c_exit ?_
   | (refine s_iscond ?_; first
   | (refine c_true rfl (by first | with_reducible rfl | with_reducible assumption | ((with_reducible refine decide_eq_true ?_); first | with_reducible rfl | with_reducible assumption | omega)) ?_)
   | (refine c_false rfl (by first | with_reducible rfl | with_reducible assumption | ((with_reducible refine decide_eq_false ?_); first | with_reducible assumption | omega)) ?_)
   | (refine c_true rfl (by first | (simp only [Bool.not_eq_true', decide_eq_false_iff_not]; omega) | (with_reducible assumption) | (rw [decide_eq_false] <;> (first | omega | with_reducible rfl)) | (rw [decide_eq_true] <;> (first | omega | with_reducible rfl)) | (simp; done) | (simp; omega)) ?_)
   | (refine c_false rfl (by first | (simp only [Bool.not_eq_false', decide_eq_true_eq]; omega) | (with_reducible assumption) | (rw [decide_eq_false] <;> (first | omega | with_reducible rfl)) | (rw [decide_eq_true] <;> (first | omega | with_reducible rfl)) | (simp; done) | (simp; omega)) ?_)
   | refine c_cond rfl (fun hc => ?_) (fun hc => ?_)
   | refine c_condb rfl (fun hc => ?_) (fun hc => ?_)))
   | refine x_then ?_
   | refine x_then_ret ?_
   | refine x_then_exit ?_
   | refine x_block _ ?_
   | refine x_block_ret _ ?_
   | refine x_block_exit _ ?_
   | refine x_block_past (by decide) ?_
   | refine z_tailm ?_)
   | (refine z_isg1 ?_; first
   | refine z_skipu (by decide) rfl rfl ?_
   | (refine z_want1 rfl rfl (by first | with_reducible rfl | with_reducible assumption | ((with_reducible refine decide_eq_true ?_); first | with_reducible rfl | with_reducible assumption | omega)) ?_)
   | (refine z_skip1 (by decide) rfl rfl (by first | with_reducible rfl | with_reducible assumption | ((with_reducible refine decide_eq_false ?_); first | with_reducible assumption | omega)) ?_)
   | (refine z_want1 rfl rfl (by first | (simp only [Bool.not_eq_true', decide_eq_false_iff_not]; omega) | (with_reducible assumption) | (rw [decide_eq_false] <;> (first | omega | with_reducible rfl)) | (rw [decide_eq_true] <;> (first | omega | with_reducible rfl)) | (simp; done) | (simp; omega)) ?_)
   | (refine z_skip1 (by decide) rfl rfl (by first | (simp only [Bool.not_eq_false', decide_eq_true_eq]; omega) | (with_reducible assumption) | (rw [decide_eq_false] <;> (first | omega | with_reducible rfl)) | (rw [decide_eq_true] <;> (first | omega | with_reducible rfl)) | (simp; done) | (simp; omega)) ?_)
   | refine z_guard1 (by decide) rfl rfl (fun hc => ?_) (fun hc => ?_)
   | refine z_guardb (by decide) rfl rfl (fun hc => ?_) (fun hc => ?_))
   | (refine z_isnil ?_; first
   | refine z_list ?_
   | refine z_mixed ?_
   | refine z_mono0 ?_
   | refine z_mono1 (by decide) fun g => ?_
   | refine z_mono2 (by decide) (by decide) fun g g' => ?_
   | refine z_mixedx ?_
   | refine z_quiet ?_)
   | (refine z_isop ?_; first
   | refine m_alloca (e := 80) (vs := tb 0 0) (by kernel_rfl) ?_
   | refine m_inib tabOk (by decide) rfl (by decide) (fun _ => rfl) rfl (tb_len _ _) (tb_one _ _) (by simp only [tb_len]) ?_
   | refine o_boxa rfl rfl (by decide) fun g => ?_
   | refine o_alloca (e := 80) (vs := tb 0 0) rfl (by kernel_rfl) (by decide) fun g => ?_
   | refine o_alloca (e := 83) (vs := op3 0 0 0) rfl (by kernel_rfl) (by decide) fun g => ?_
   | refine o_build0 (t := 83) (v := .agg (op3 0 0 0).toArray) (fun _ => by kernel_rfl) (by decide) ?_
   | refine o_build0 (t := 80) (v := .agg (tb 0 0).toArray) (fun _ => by kernel_rfl) (by decide) ?_
   | refine o_build (t := 83) rfl build83 (by decide) ?_
   | refine o_build0 (t := 117) (v := .agg (fl 0 0 0 0).toArray) (fun _ => by kernel_rfl) (by decide) ?_
   | (refine z_isbin ?_; first
   | refine o_eqa cmp80 rfl rfl (tb_typed _ _) (tb_typed _ _) (by decide) ?_
   | (refine z_isb .add ?_; first
   | refine o_add rfl rfl (by omega) (by omega) (by decide) ?_
   | refine o_addw rfl rfl (by decide) ?_)
   | (refine z_isb .eql ?_; first
   | refine o_eq rfl rfl (by decide) ?_
   | refine o_beq tabOk rfl rfl rfl (by decide) ?_
   | refine o_peq tabOk rfl rfl (by decide) ?_))
   | (refine z_isload ?_; first
   | refine o_loadp tabOk rfl rfl rfl 1 rfl (op_len _ _ _) (fdd_o _ _ _ _ _ _ _) (by decide) ?_
   | (refine z_ld1 tabOk rfl rfl ?_; first
   | refine o_loadm tabOk rfl rfl rfl (by repeat' (first | exact List.mem_cons_self | apply List.mem_cons_of_mem)) (by first | exact tb_0 _ _ | exact tb_1 _ _ | exact tb_l0 _ _ | exact tb_l1 _ _ | exact op_0 _ _ _ | exact op_1 _ _ _ | exact op_2 _ _ _ | exact fdd_2 _ _ _ _ _ _ _ | exact fdd_3 _ _ _ _ _ _ _ | exact fdd_4 _ _ _ _ _ _ _ | exact fdd_5 _ _ _ _ _ _ _ | rfl) (by decide) ?_
   | refine o_loads tabOk (by first | assumption | exact Rds.cons _ (by assumption) | exact Rds.cons _ (Rds.cons _ (by assumption)) | exact own_rds 0 rfl | exact own_rds 1 rfl | exact own_rds 2 rfl) rfl rfl rfl (by first | exact tb_0 _ _ | exact tb_1 _ _ | exact tb_l0 _ _ | exact tb_l1 _ _ | exact op_0 _ _ _ | exact op_1 _ _ _ | exact op_2 _ _ _ | exact fdd_2 _ _ _ _ _ _ _ | exact fdd_3 _ _ _ _ _ _ _ | exact fdd_4 _ _ _ _ _ _ _ | exact fdd_5 _ _ _ _ _ _ _ | rfl) (by decide) ?_)
   | (refine z_ldw tabOk rfl rfl ?_; first
   | (refine o_loadwm tabOk rfl rfl rfl (by repeat' (first | exact List.mem_cons_self | apply List.mem_cons_of_mem)) (by first | exact tb_len _ _ | exact op_len _ _ _ | exact fl_len _ _ _ _ | exact fdd_len _ _ _ _ _ _ _ | (simp only [tb_len, op_len, fl_len, fdd_len]; done) | rfl) (by decide) ?_)))
   | (refine z_isstore ?_; first
   | (refine z_stw rfl ?_; first
   | ((refine z_sti 0 rfl rfl ?_; refine o_storeb0 rfl tabOk rfl rfl rfl (by first | exact tb_len _ _ | exact op_len _ _ _ | exact fl_len _ _ _ _ | exact fdd_len _ _ _ _ _ _ _ | (simp only [tb_len, op_len, fl_len, fdd_len]; done) | rfl) (by first | exact tb_one _ _ | exact op_one _ _ _ | exact fl_one _ _ _ _ | rfl) (by first | exact tb_len _ _ | exact op_len _ _ _ | exact fl_len _ _ _ _ | exact fdd_len _ _ _ _ _ _ _ | (simp only [tb_len, op_len, fl_len, fdd_len]; done) | rfl) ?_))
   | ((refine z_sti 1 rfl rfl ?_; refine o_storeb1 rfl tabOk rfl rfl rfl (by first | exact tb_len _ _ | exact op_len _ _ _ | exact fl_len _ _ _ _ | exact fdd_len _ _ _ _ _ _ _ | (simp only [tb_len, op_len, fl_len, fdd_len]; done) | rfl) (by first | exact tb_one _ _ | exact op_one _ _ _ | exact fl_one _ _ _ _ | rfl) (by first | exact tb_len _ _ | exact op_len _ _ _ | exact fl_len _ _ _ _ | exact fdd_len _ _ _ _ _ _ _ | (simp only [tb_len, op_len, fl_len, fdd_len]; done) | rfl) ?_))
   | ((refine z_sti 2 rfl rfl ?_; refine o_storeb2 rfl tabOk rfl rfl rfl (by first | exact tb_len _ _ | exact op_len _ _ _ | exact fl_len _ _ _ _ | exact fdd_len _ _ _ _ _ _ _ | (simp only [tb_len, op_len, fl_len, fdd_len]; done) | rfl) (by first | exact tb_one _ _ | exact op_one _ _ _ | exact fl_one _ _ _ _ | rfl) (by first | exact tb_len _ _ | exact op_len _ _ _ | exact fl_len _ _ _ _ | exact fdd_len _ _ _ _ _ _ _ | (simp only [tb_len, op_len, fl_len, fdd_len]; done) | rfl) ?_))
   | ((refine z_sti 3 rfl rfl ?_; refine o_storeb3 rfl tabOk rfl rfl rfl (by first | exact tb_len _ _ | exact op_len _ _ _ | exact fl_len _ _ _ _ | exact fdd_len _ _ _ _ _ _ _ | (simp only [tb_len, op_len, fl_len, fdd_len]; done) | rfl) (by first | exact tb_one _ _ | exact op_one _ _ _ | exact fl_one _ _ _ _ | rfl) (by first | exact tb_len _ _ | exact op_len _ _ _ | exact fl_len _ _ _ _ | exact fdd_len _ _ _ _ _ _ _ | (simp only [tb_len, op_len, fl_len, fdd_len]; done) | rfl) ?_))
   | ((refine z_sti 4 rfl rfl ?_; refine o_storeb4 rfl tabOk rfl rfl rfl (by first | exact tb_len _ _ | exact op_len _ _ _ | exact fl_len _ _ _ _ | exact fdd_len _ _ _ _ _ _ _ | (simp only [tb_len, op_len, fl_len, fdd_len]; done) | rfl) (by first | exact tb_one _ _ | exact op_one _ _ _ | exact fl_one _ _ _ _ | rfl) (by first | exact tb_len _ _ | exact op_len _ _ _ | exact fl_len _ _ _ _ | exact fdd_len _ _ _ _ _ _ _ | (simp only [tb_len, op_len, fl_len, fdd_len]; done) | rfl) ?_))
   | ((refine z_sti 5 rfl rfl ?_; refine o_storeb5 rfl tabOk rfl rfl rfl (by first | exact tb_len _ _ | exact op_len _ _ _ | exact fl_len _ _ _ _ | exact fdd_len _ _ _ _ _ _ _ | (simp only [tb_len, op_len, fl_len, fdd_len]; done) | rfl) (by first | exact tb_one _ _ | exact op_one _ _ _ | exact fl_one _ _ _ _ | rfl) (by first | exact tb_len _ _ | exact op_len _ _ _ | exact fl_len _ _ _ _ | exact fdd_len _ _ _ _ _ _ _ | (simp only [tb_len, op_len, fl_len, fdd_len]; done) | rfl) ?_))
   | ((refine z_sti 6 rfl rfl ?_; refine o_storeb6 rfl tabOk rfl rfl rfl (by first | exact tb_len _ _ | exact op_len _ _ _ | exact fl_len _ _ _ _ | exact fdd_len _ _ _ _ _ _ _ | (simp only [tb_len, op_len, fl_len, fdd_len]; done) | rfl) (by first | exact tb_one _ _ | exact op_one _ _ _ | exact fl_one _ _ _ _ | rfl) (by first | exact tb_len _ _ | exact op_len _ _ _ | exact fl_len _ _ _ _ | exact fdd_len _ _ _ _ _ _ _ | (simp only [tb_len, op_len, fl_len, fdd_len]; done) | rfl) ?_)))
   | (refine z_st1 rfl rfl ?_; first
   | refine o_store rfl tabOk rfl rfl rfl rfl rfl (by first | exact tb_0 _ _ | exact tb_1 _ _ | exact tb_l0 _ _ | exact tb_l1 _ _ | exact op_0 _ _ _ | exact op_1 _ _ _ | exact op_2 _ _ _ | exact fdd_2 _ _ _ _ _ _ _ | exact fdd_3 _ _ _ _ _ _ _ | exact fdd_4 _ _ _ _ _ _ _ | exact fdd_5 _ _ _ _ _ _ _ | rfl) (by first | rfl) ?_
   | ((refine z_sti 1 rfl rfl ?_; refine o_store1 rfl tabOk rfl rfl rfl rfl rfl (by first | exact tb_0 _ _ | exact tb_1 _ _ | exact tb_l0 _ _ | exact tb_l1 _ _ | exact op_0 _ _ _ | exact op_1 _ _ _ | exact op_2 _ _ _ | exact fdd_2 _ _ _ _ _ _ _ | exact fdd_3 _ _ _ _ _ _ _ | exact fdd_4 _ _ _ _ _ _ _ | exact fdd_5 _ _ _ _ _ _ _ | rfl) (by first | rfl) ?_))
   | ((refine z_sti 2 rfl rfl ?_; refine o_store2 rfl tabOk rfl rfl rfl rfl rfl (by first | exact tb_0 _ _ | exact tb_1 _ _ | exact tb_l0 _ _ | exact tb_l1 _ _ | exact op_0 _ _ _ | exact op_1 _ _ _ | exact op_2 _ _ _ | exact fdd_2 _ _ _ _ _ _ _ | exact fdd_3 _ _ _ _ _ _ _ | exact fdd_4 _ _ _ _ _ _ _ | exact fdd_5 _ _ _ _ _ _ _ | rfl) (by first | rfl) ?_))
   | ((refine z_sti 3 rfl rfl ?_; refine o_store3 rfl tabOk rfl rfl rfl rfl rfl (by first | exact tb_0 _ _ | exact tb_1 _ _ | exact tb_l0 _ _ | exact tb_l1 _ _ | exact op_0 _ _ _ | exact op_1 _ _ _ | exact op_2 _ _ _ | exact fdd_2 _ _ _ _ _ _ _ | exact fdd_3 _ _ _ _ _ _ _ | exact fdd_4 _ _ _ _ _ _ _ | exact fdd_5 _ _ _ _ _ _ _ | rfl) (by first | rfl) ?_))
   | ((refine z_sti 4 rfl rfl ?_; refine o_store4 rfl tabOk rfl rfl rfl rfl rfl (by first | exact tb_0 _ _ | exact tb_1 _ _ | exact tb_l0 _ _ | exact tb_l1 _ _ | exact op_0 _ _ _ | exact op_1 _ _ _ | exact op_2 _ _ _ | exact fdd_2 _ _ _ _ _ _ _ | exact fdd_3 _ _ _ _ _ _ _ | exact fdd_4 _ _ _ _ _ _ _ | exact fdd_5 _ _ _ _ _ _ _ | rfl) (by first | rfl) ?_))
   | ((refine z_sti 5 rfl rfl ?_; refine o_store5 rfl tabOk rfl rfl rfl rfl rfl (by first | exact tb_0 _ _ | exact tb_1 _ _ | exact tb_l0 _ _ | exact tb_l1 _ _ | exact op_0 _ _ _ | exact op_1 _ _ _ | exact op_2 _ _ _ | exact fdd_2 _ _ _ _ _ _ _ | exact fdd_3 _ _ _ _ _ _ _ | exact fdd_4 _ _ _ _ _ _ _ | exact fdd_5 _ _ _ _ _ _ _ | rfl) (by first | rfl) ?_))
   | ((refine z_sti 6 rfl rfl ?_; refine o_store6 rfl tabOk rfl rfl rfl rfl rfl (by first | exact tb_0 _ _ | exact tb_1 _ _ | exact tb_l0 _ _ | exact tb_l1 _ _ | exact op_0 _ _ _ | exact op_1 _ _ _ | exact op_2 _ _ _ | exact fdd_2 _ _ _ _ _ _ _ | exact fdd_3 _ _ _ _ _ _ _ | exact fdd_4 _ _ _ _ _ _ _ | exact fdd_5 _ _ _ _ _ _ _ | rfl) (by first | rfl) ?_))))
   | (refine z_iscall ?_; first
   | ((refine z_iscallf 36 ?_; refine o_fn rfl Try.func36 rfl rfl rfl (open_nil _ _ _) (by decide) ?_))
   | ((refine z_iscallf 37 ?_; refine o_fn rfl Try.func37 rfl rfl rfl (mine_n _ _ _) (by decide) ?_))
   | ((refine z_iscallf 38 ?_; refine o_fn rfl Try.func38 rfl rfl rfl (dup_nil _) (by decide) ?_))
   | ((refine z_iscallf 39 ?_; refine o_fn rfl Try.func39 rfl rfl rfl (close_nil _) (by decide) ?_))
   | ((refine z_iscallf 40 ?_; refine o_fn rfl Try.func40 rfl rfl rfl (get_nil _) (by decide) ?_))
   | ((refine z_iscallf 41 ?_; refine o_fn rfl Try.func41 rfl rfl rfl (fork_nil') (by decide) ?_))
   | ((refine z_iscallf 42 ?_; refine o_fn rfl Try.func42 rfl rfl rfl (seek_nil _ _) (by decide) ?_))
   | ((refine z_iscallf 43 ?_; refine o_fn rfl Try.func43 rfl rfl rfl (has_nil _ _) (by decide) ?_))
   | ((refine z_iscallf 44 ?_; refine o_fn rfl Try.func44 rfl rfl rfl (room_nil _) (by decide) ?_))
   | ((refine z_iscallf 45 ?_; refine o_fn rfl Try.func45 rfl rfl rfl (len_nil) (by decide) ?_))
   | ((refine z_iscallf 46 ?_; refine o_fn rfl Try.func46 rfl rfl rfl (call_nil) (by decide) ?_))
   | ((refine z_iscallf 47 ?_; refine o_fn rfl Try.func47 rfl rfl rfl (awake_f) (by decide) ?_)))
   | (refine z_ispick ?_; first
   | (refine o_pick1 rfl (by first | with_reducible rfl | with_reducible assumption | ((with_reducible refine decide_eq_true ?_); first | with_reducible rfl | with_reducible assumption | omega)) rfl (by decide) ?_)
   | (refine o_pick0 rfl (by first | with_reducible rfl | with_reducible assumption | ((with_reducible refine decide_eq_false ?_); first | with_reducible assumption | omega)) rfl (by decide) ?_)
   | (refine o_pick1 rfl (by first | (simp only [Bool.not_eq_true', decide_eq_false_iff_not]; omega) | (with_reducible assumption) | (rw [decide_eq_false] <;> (first | omega | with_reducible rfl)) | (rw [decide_eq_true] <;> (first | omega | with_reducible rfl)) | (simp; done) | (simp; omega)) rfl (by decide) ?_)
   | (refine o_pick0 rfl (by first | (simp only [Bool.not_eq_false', decide_eq_true_eq]; omega) | (with_reducible assumption) | (rw [decide_eq_false] <;> (first | omega | with_reducible rfl)) | (rw [decide_eq_true] <;> (first | omega | with_reducible rfl)) | (simp; done) | (simp; omega)) rfl (by decide) ?_))
   | (refine z_isbi ?_; first
   | refine o_len tabOk rfl rfl (by decide) ?_
   | refine o_min rfl rfl (by decide) ?_
   | refine o_max rfl rfl (by decide) ?_)
   | refine o_move rfl (by decide) ?_
   | refine o_assign rfl (by decide) ?_
   | refine o_nil rfl (by decide) ?_
   | refine o_extract rfl rfl (by decide) ?_
   | refine o_not rfl (by decide) ?_
   | refine o_field0 tabOk rfl rfl rfl rfl rfl (by decide) ?_
   | refine o_field tabOk rfl rfl rfl rfl rfl (by decide) ?_
   | refine o_conv tabOk rfl rfl rfl (by decide) ?_))
end Go.Proofs.Ytmfnjmmdchlkiaa
