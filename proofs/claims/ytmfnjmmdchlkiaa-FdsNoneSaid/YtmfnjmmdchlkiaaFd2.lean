/-
The law's own probe: one file, opened, told twice, closed twice.
-/
import Derived.Test.YtmfnjmmdchlkiaaFd
namespace Go.Proofs.Ytmfnjmmdchlkiaa
set_option linter.unusedVariables false
set_option linter.unusedSimpArgs false
open Eng
def rl (r : Int) : List Value := .int .i64 r :: List.replicate 15 (.int .i64 0)
theorem rl_len (r : Int) : (rl r).length = 16 := rfl
theorem rl_0 (r : Int) : (rl r)[(0 : Int).toNat]? = some (.int .i64 r) := rfl
theorem rl_all (i : Nat) (h : i < 16) : (rl 0)[((i : Int)).toNat]? = some (.int .i64 0) := by
  rw [Int.toNat_natCast]
  have : rl 0 = List.replicate 16 (.int .i64 0) := rfl
  rw [this, List.getElem?_replicate, if_pos h]
theorem fl_rs (a b c r : Int) : ∀ (j : Nat) u, (rl r)[j]? = some u → (fl a b c r)[48 + j]? = some u := fun j u h => by
  have h2 : fl a b c r = (op3 a b c ++ List.replicate 45 (.int .i64 0)) ++ rl r := rfl
  rw [h2, List.getElem?_append_right (by show 48 ≤ 48 + j; omega)]
  have : 48 + j - (op3 a b c ++ List.replicate 45 (Value.int .i64 0)).length = j := by show 48 + j - 48 = j; omega
  rw [this]; exact h
theorem fl_os (a b c r : Int) : ∀ (j : Nat) u, (op3 a b c)[j]? = some u → (fl a b c r)[0 + j]? = some u := fun j u h => by
  have hj : j < 3 := (List.getElem?_eq_some_iff.1 h).1
  match j, hj with
  | 0, _ => exact h
  | 1, _ => exact h
  | 2, _ => exact h
theorem fl_put (a b c a' b' c' r : Int) : (fl a b c r).take 0 ++ op3 a' b' c' ++ (fl a b c r).drop (0 + (op3 a' b' c').length) = fl a' b' c' r := rfl
theorem fl_setr (a b c r v : Int) : (fl a b c r).set 48 (.int .i64 v) = fl a b c v := rfl
theorem tb_set0 (x y v : Int) : (tb x y).set 0 (.int .i64 v) = tb v y := rfl
theorem tb_set1 (x y v : Int) : (tb x y).set 1 (.int .i64 v) = tb x v := rfl
theorem tb_l0 (x y : Int) : (tb x y)[0]? = some (.int .i64 x) := rfl
theorem tb_l1 (x y : Int) : (tb x y)[1]? = some (.int .i64 y) := rfl
attribute [local irreducible] Eng.Hold Eng.Z Eng.S Eng.cells Eng.old Eng.own tb op3 fl
attribute [local irreducible] rl
theorem free_1 : Pf Try.prog 55 [.agg (tb 1 0).toArray] (.tuple #[.int .i64 1, .bool true]) := by
  intro w hw
  refine f_enter Try.func55 rfl Try.ntmps55 rfl hw ?_
  repeat' (first
   | (refine s_is ?_; first
   | (refine s_isw ?_; first
   | (refine s_isloop ?_; first
   | ((refine c_loop (X := Nat) (fun n => n ≤ 1) (fun n => [(7, .agg (tb 1 0).toArray), (8, .int .i64 n)]) (fun _ => []) (fun n => 1 - n) 0 (by omega) ⟨rfl, rfl, trivial⟩ (fun w h => h.none) (fun n hn => ?_); refine hold ?_)))
   | refine c_seq ?_
   | refine c_block ?_
   | refine c_region ?_
   | refine c_mixed mixed (by kernel_rfl) ?_
   | refine c_skip ?_
   | refine c_ret ?_
   | refine c_exit ?_
   | (refine s_iscond ?_; first
   | (refine c_true rfl (by first | with_reducible rfl | with_reducible assumption | ((with_reducible refine decide_eq_true ?_); first | with_reducible rfl | with_reducible assumption | omega)) ?_)
   | (refine c_false rfl (by first | with_reducible rfl | with_reducible assumption | ((with_reducible refine decide_eq_false ?_); first | with_reducible assumption | omega)) ?_)
   | (refine c_true rfl (by first | (simp only [Bool.not_eq_true', decide_eq_false_iff_not]; omega) | (with_reducible assumption) | (rw [decide_eq_false] <;> (first | omega | with_reducible rfl)) | (rw [decide_eq_true] <;> (first | omega | with_reducible rfl)) | (simp; done) | (simp; omega)) ?_)
   | (refine c_false rfl (by first | (simp only [Bool.not_eq_false', decide_eq_true_eq]; omega) | (with_reducible assumption) | (rw [decide_eq_false] <;> (first | omega | with_reducible rfl)) | (rw [decide_eq_true] <;> (first | omega | with_reducible rfl)) | (simp; done) | (simp; omega)) ?_)
   | refine c_cond rfl (fun hc => ?_) (fun hc => ?_)
   | refine c_condb rfl (fun hc => ?_) (fun hc => ?_)))
   | refine x_then ?_
   | refine x_then_ret ?_
   | refine x_then_exit ?_
   | refine x_block _ ?_
   | refine x_block_ret _ ?_
   | refine x_block_exit _ ?_
   | refine x_block_past (by decide) ?_
   | refine z_tailm ?_)
   | (refine z_isnil ?_; first
   | refine z_list ?_
   | refine z_mixed ?_
   | refine z_mono0 ?_
   | refine z_mono1 (by decide) fun g => ?_
   | refine z_mono2 (by decide) (by decide) fun g g' => ?_
   | refine z_mixedx ?_
   | refine z_quiet ?_)
   | (refine z_isop ?_; first
   | refine o_boxa rfl rfl (by decide) fun g => ?_
   | refine o_alloca (e := 80) (vs := tb 0 0) rfl (by kernel_rfl) (by decide) fun g => ?_
   | refine o_alloca (e := 83) (vs := op3 0 0 0) rfl (by kernel_rfl) (by decide) fun g => ?_
   | refine o_build0 (t := 83) (v := .agg (op3 0 0 0).toArray) (fun _ => by kernel_rfl) (by decide) ?_
   | refine o_build0 (t := 80) (v := .agg (tb 0 0).toArray) (fun _ => by kernel_rfl) (by decide) ?_
   | (refine z_isbin ?_; first
   | refine o_eqa cmp80 rfl rfl (tb_typed _ _) (tb_typed _ _) (by decide) ?_
   | (refine z_isb .add ?_; first
   | refine o_add rfl rfl (by omega) (by omega) (by decide) ?_
   | refine o_addw rfl rfl (by decide) ?_)
   | (refine z_isb .eql ?_; first
   | refine o_eq rfl rfl (by decide) ?_
   | refine o_beq tabOk rfl rfl rfl (by decide) ?_
   | refine o_peq tabOk rfl rfl (by decide) ?_)
   | (refine z_isb .lss ?_; first
   | refine o_lt rfl rfl (by decide) ?_))
   | (refine z_isload ?_; first
   | (refine z_ld1 tabOk rfl rfl ?_; first
   | refine o_loadm tabOk rfl rfl rfl (by repeat' (first | exact List.mem_cons_self | apply List.mem_cons_of_mem)) (by first | exact tb_0 _ _ | exact tb_1 _ _ | exact tb_l0 _ _ | exact tb_l1 _ _ | exact rl_0 _ | exact op_0 _ _ _ | exact op_1 _ _ _ | exact op_2 _ _ _ | exact fl_r _ _ _ _ | exact fl_a _ _ _ _ | exact rl_all _ (by omega) | rfl) (by decide) ?_
   | refine o_loads tabOk (by first | assumption | exact Rds.cons _ (by assumption) | exact Rds.cons _ (Rds.cons _ (by assumption)) | exact own_rds 0 rfl | exact own_rds 1 rfl | exact own_rds 2 rfl) rfl rfl rfl (by first | exact tb_0 _ _ | exact tb_1 _ _ | exact tb_l0 _ _ | exact tb_l1 _ _ | exact rl_0 _ | exact op_0 _ _ _ | exact op_1 _ _ _ | exact op_2 _ _ _ | exact fl_r _ _ _ _ | exact fl_a _ _ _ _ | exact rl_all _ (by omega) | rfl) (by decide) ?_)
   | (refine z_ldw tabOk rfl rfl ?_; first
   | (refine o_loadwm tabOk rfl rfl rfl (by repeat' (first | exact List.mem_cons_self | apply List.mem_cons_of_mem)) (by first | exact tb_len _ _ | exact op_len _ _ _ | exact fl_len _ _ _ _ | exact rl_len _ | (simp only [tb_len, op_len, fl_len, rl_len]; done) | rfl) (by decide) ?_)))
   | (refine z_isindex ?_; first
   | refine o_ixv tabOk rfl rfl rfl rfl rfl (by omega) (by omega) (by first | exact tb_0 _ _ | exact tb_1 _ _ | exact tb_l0 _ _ | exact tb_l1 _ _ | exact rl_0 _ | exact op_0 _ _ _ | exact op_1 _ _ _ | exact op_2 _ _ _ | exact fl_r _ _ _ _ | exact fl_a _ _ _ _ | exact rl_all _ (by omega) | rfl) (by decide) ?_)
   | refine o_move rfl (by decide) ?_
   | refine o_assign rfl (by decide) ?_
   | refine o_nil rfl (by decide) ?_
   | refine o_extract rfl rfl (by decide) ?_
   | refine o_not rfl (by decide) ?_
   | refine o_field0 tabOk rfl rfl rfl rfl rfl (by decide) ?_
   | refine o_field tabOk rfl rfl rfl rfl rfl (by decide) ?_
   | refine o_conv tabOk rfl rfl rfl (by decide) ?_))
  refine Hold.go ?_
  by_cases h0 : n = 0
  · subst h0
    repeat' (first
     | (refine s_is ?_; first
     | (refine s_isagain ?_; first
     | exact c_again 1 (by omega) (by omega) ⟨rfl, rfl, trivial⟩ (fun w h => h))
     | (refine s_isw ?_; first
     | refine c_seq ?_
     | refine c_block ?_
     | refine c_region ?_
     | refine c_mixed mixed (by kernel_rfl) ?_
     | refine c_skip ?_
     | refine c_ret ?_
     | refine c_exit ?_
     | (refine s_iscond ?_; first
     | (refine c_true rfl (by first | with_reducible rfl | with_reducible assumption | ((with_reducible refine decide_eq_true ?_); first | with_reducible rfl | with_reducible assumption | omega)) ?_)
     | (refine c_false rfl (by first | with_reducible rfl | with_reducible assumption | ((with_reducible refine decide_eq_false ?_); first | with_reducible assumption | omega)) ?_)
     | (refine c_true rfl (by first | (simp only [Bool.not_eq_true', decide_eq_false_iff_not]; omega) | (with_reducible assumption) | (rw [decide_eq_false] <;> (first | omega | with_reducible rfl)) | (rw [decide_eq_true] <;> (first | omega | with_reducible rfl)) | (simp; done) | (simp; omega)) ?_)
     | (refine c_false rfl (by first | (simp only [Bool.not_eq_false', decide_eq_true_eq]; omega) | (with_reducible assumption) | (rw [decide_eq_false] <;> (first | omega | with_reducible rfl)) | (rw [decide_eq_true] <;> (first | omega | with_reducible rfl)) | (simp; done) | (simp; omega)) ?_)
     | refine c_cond rfl (fun hc => ?_) (fun hc => ?_)
     | refine c_condb rfl (fun hc => ?_) (fun hc => ?_)))
     | refine x_then ?_
     | refine x_then_ret ?_
     | refine x_then_exit ?_
     | refine x_block _ ?_
     | refine x_block_ret _ ?_
     | refine x_block_exit _ ?_
     | refine x_block_past (by decide) ?_
     | refine z_tailm ?_)
     | (refine z_isnil ?_; first
     | refine z_list ?_
     | refine z_mixed ?_
     | refine z_mono0 ?_
     | refine z_mono1 (by decide) fun g => ?_
     | refine z_mono2 (by decide) (by decide) fun g g' => ?_
     | refine z_mixedx ?_
     | refine z_quiet ?_)
     | (refine z_isop ?_; first
     | refine o_boxa rfl rfl (by decide) fun g => ?_
     | refine o_alloca (e := 80) (vs := tb 0 0) rfl (by kernel_rfl) (by decide) fun g => ?_
     | refine o_alloca (e := 83) (vs := op3 0 0 0) rfl (by kernel_rfl) (by decide) fun g => ?_
     | refine o_build0 (t := 83) (v := .agg (op3 0 0 0).toArray) (fun _ => by kernel_rfl) (by decide) ?_
     | refine o_build0 (t := 80) (v := .agg (tb 0 0).toArray) (fun _ => by kernel_rfl) (by decide) ?_
     | (refine z_isbin ?_; first
     | refine o_eqa cmp80 rfl rfl (tb_typed _ _) (tb_typed _ _) (by decide) ?_
     | (refine z_isb .add ?_; first
     | refine o_add rfl rfl (by omega) (by omega) (by decide) ?_
     | refine o_addw rfl rfl (by decide) ?_)
     | (refine z_isb .eql ?_; first
     | refine o_eq rfl rfl (by decide) ?_
     | refine o_beq tabOk rfl rfl rfl (by decide) ?_
     | refine o_peq tabOk rfl rfl (by decide) ?_)
     | (refine z_isb .lss ?_; first
     | refine o_lt rfl rfl (by decide) ?_))
     | (refine z_isload ?_; first
     | (refine z_ld1 tabOk rfl rfl ?_; first
     | refine o_loadm tabOk rfl rfl rfl (by repeat' (first | exact List.mem_cons_self | apply List.mem_cons_of_mem)) (by first | exact tb_0 _ _ | exact tb_1 _ _ | exact tb_l0 _ _ | exact tb_l1 _ _ | exact rl_0 _ | exact op_0 _ _ _ | exact op_1 _ _ _ | exact op_2 _ _ _ | exact fl_r _ _ _ _ | exact fl_a _ _ _ _ | exact rl_all _ (by omega) | rfl) (by decide) ?_
     | refine o_loads tabOk (by first | assumption | exact Rds.cons _ (by assumption) | exact Rds.cons _ (Rds.cons _ (by assumption)) | exact own_rds 0 rfl | exact own_rds 1 rfl | exact own_rds 2 rfl) rfl rfl rfl (by first | exact tb_0 _ _ | exact tb_1 _ _ | exact tb_l0 _ _ | exact tb_l1 _ _ | exact rl_0 _ | exact op_0 _ _ _ | exact op_1 _ _ _ | exact op_2 _ _ _ | exact fl_r _ _ _ _ | exact fl_a _ _ _ _ | exact rl_all _ (by omega) | rfl) (by decide) ?_)
     | (refine z_ldw tabOk rfl rfl ?_; first
     | (refine o_loadwm tabOk rfl rfl rfl (by repeat' (first | exact List.mem_cons_self | apply List.mem_cons_of_mem)) (by first | exact tb_len _ _ | exact op_len _ _ _ | exact fl_len _ _ _ _ | exact rl_len _ | (simp only [tb_len, op_len, fl_len, rl_len]; done) | rfl) (by decide) ?_)))
     | (refine z_isindex ?_; first
     | refine o_ixv tabOk rfl rfl rfl rfl rfl (by omega) (by omega) (by first | exact tb_0 _ _ | exact tb_1 _ _ | exact tb_l0 _ _ | exact tb_l1 _ _ | exact rl_0 _ | exact op_0 _ _ _ | exact op_1 _ _ _ | exact op_2 _ _ _ | exact fl_r _ _ _ _ | exact fl_a _ _ _ _ | exact rl_all _ (by omega) | rfl) (by decide) ?_)
     | refine o_move rfl (by decide) ?_
     | refine o_assign rfl (by decide) ?_
     | refine o_nil rfl (by decide) ?_
     | refine o_extract rfl rfl (by decide) ?_
     | refine o_not rfl (by decide) ?_
     | refine o_field0 tabOk rfl rfl rfl rfl rfl (by decide) ?_
     | refine o_field tabOk rfl rfl rfl rfl rfl (by decide) ?_
     | refine o_conv tabOk rfl rfl rfl (by decide) ?_))
  · obtain rfl : n = 1 := by omega
    repeat' (first
     | (refine s_is ?_; first
     | (refine s_isret ?_; first
     | exact f_r2 rfl (res_t rfl) (res_t rfl) () trivial rfl (fun w h => h.none))
     | (refine s_isw ?_; first
     | refine c_seq ?_
     | refine c_block ?_
     | refine c_region ?_
     | refine c_mixed mixed (by kernel_rfl) ?_
     | refine c_skip ?_
     | refine c_ret ?_
     | refine c_exit ?_
     | (refine s_iscond ?_; first
     | (refine c_true rfl (by first | with_reducible rfl | with_reducible assumption | ((with_reducible refine decide_eq_true ?_); first | with_reducible rfl | with_reducible assumption | omega)) ?_)
     | (refine c_false rfl (by first | with_reducible rfl | with_reducible assumption | ((with_reducible refine decide_eq_false ?_); first | with_reducible assumption | omega)) ?_)
     | (refine c_true rfl (by first | (simp only [Bool.not_eq_true', decide_eq_false_iff_not]; omega) | (with_reducible assumption) | (rw [decide_eq_false] <;> (first | omega | with_reducible rfl)) | (rw [decide_eq_true] <;> (first | omega | with_reducible rfl)) | (simp; done) | (simp; omega)) ?_)
     | (refine c_false rfl (by first | (simp only [Bool.not_eq_false', decide_eq_true_eq]; omega) | (with_reducible assumption) | (rw [decide_eq_false] <;> (first | omega | with_reducible rfl)) | (rw [decide_eq_true] <;> (first | omega | with_reducible rfl)) | (simp; done) | (simp; omega)) ?_)
     | refine c_cond rfl (fun hc => ?_) (fun hc => ?_)
     | refine c_condb rfl (fun hc => ?_) (fun hc => ?_)))
     | refine x_then ?_
     | refine x_then_ret ?_
     | refine x_then_exit ?_
     | refine x_block _ ?_
     | refine x_block_ret _ ?_
     | refine x_block_exit _ ?_
     | refine x_block_past (by decide) ?_
     | refine z_tailm ?_)
     | (refine z_isnil ?_; first
     | refine z_list ?_
     | refine z_mixed ?_
     | refine z_mono0 ?_
     | refine z_mono1 (by decide) fun g => ?_
     | refine z_mono2 (by decide) (by decide) fun g g' => ?_
     | refine z_mixedx ?_
     | refine z_quiet ?_)
     | (refine z_isop ?_; first
     | refine o_boxa rfl rfl (by decide) fun g => ?_
     | refine o_alloca (e := 80) (vs := tb 0 0) rfl (by kernel_rfl) (by decide) fun g => ?_
     | refine o_alloca (e := 83) (vs := op3 0 0 0) rfl (by kernel_rfl) (by decide) fun g => ?_
     | refine o_build0 (t := 83) (v := .agg (op3 0 0 0).toArray) (fun _ => by kernel_rfl) (by decide) ?_
     | refine o_build0 (t := 80) (v := .agg (tb 0 0).toArray) (fun _ => by kernel_rfl) (by decide) ?_
     | (refine z_isbin ?_; first
     | refine o_eqa cmp80 rfl rfl (tb_typed _ _) (tb_typed _ _) (by decide) ?_
     | (refine z_isb .add ?_; first
     | refine o_add rfl rfl (by omega) (by omega) (by decide) ?_
     | refine o_addw rfl rfl (by decide) ?_)
     | (refine z_isb .eql ?_; first
     | refine o_eq rfl rfl (by decide) ?_
     | refine o_beq tabOk rfl rfl rfl (by decide) ?_
     | refine o_peq tabOk rfl rfl (by decide) ?_)
     | (refine z_isb .lss ?_; first
     | refine o_lt rfl rfl (by decide) ?_))
     | (refine z_isload ?_; first
     | (refine z_ld1 tabOk rfl rfl ?_; first
     | refine o_loadm tabOk rfl rfl rfl (by repeat' (first | exact List.mem_cons_self | apply List.mem_cons_of_mem)) (by first | exact tb_0 _ _ | exact tb_1 _ _ | exact tb_l0 _ _ | exact tb_l1 _ _ | exact rl_0 _ | exact op_0 _ _ _ | exact op_1 _ _ _ | exact op_2 _ _ _ | exact fl_r _ _ _ _ | exact fl_a _ _ _ _ | exact rl_all _ (by omega) | rfl) (by decide) ?_
     | refine o_loads tabOk (by first | assumption | exact Rds.cons _ (by assumption) | exact Rds.cons _ (Rds.cons _ (by assumption)) | exact own_rds 0 rfl | exact own_rds 1 rfl | exact own_rds 2 rfl) rfl rfl rfl (by first | exact tb_0 _ _ | exact tb_1 _ _ | exact tb_l0 _ _ | exact tb_l1 _ _ | exact rl_0 _ | exact op_0 _ _ _ | exact op_1 _ _ _ | exact op_2 _ _ _ | exact fl_r _ _ _ _ | exact fl_a _ _ _ _ | exact rl_all _ (by omega) | rfl) (by decide) ?_)
     | (refine z_ldw tabOk rfl rfl ?_; first
     | (refine o_loadwm tabOk rfl rfl rfl (by repeat' (first | exact List.mem_cons_self | apply List.mem_cons_of_mem)) (by first | exact tb_len _ _ | exact op_len _ _ _ | exact fl_len _ _ _ _ | exact rl_len _ | (simp only [tb_len, op_len, fl_len, rl_len]; done) | rfl) (by decide) ?_)))
     | (refine z_isindex ?_; first
     | refine o_ixv tabOk rfl rfl rfl rfl rfl (by omega) (by omega) (by first | exact tb_0 _ _ | exact tb_1 _ _ | exact tb_l0 _ _ | exact tb_l1 _ _ | exact rl_0 _ | exact op_0 _ _ _ | exact op_1 _ _ _ | exact op_2 _ _ _ | exact fl_r _ _ _ _ | exact fl_a _ _ _ _ | exact rl_all _ (by omega) | rfl) (by decide) ?_)
     | refine o_move rfl (by decide) ?_
     | refine o_assign rfl (by decide) ?_
     | refine o_nil rfl (by decide) ?_
     | refine o_extract rfl rfl (by decide) ?_
     | refine o_not rfl (by decide) ?_
     | refine o_field0 tabOk rfl rfl rfl rfl rfl (by decide) ?_
     | refine o_field tabOk rfl rfl rfl rfl rfl (by decide) ?_
     | refine o_conv tabOk rfl rfl rfl (by decide) ?_))
theorem at_0 (y a b c r : Int) (hr : r ≠ 0) (g : Nat) (fr : List Chunk) (hrd : Rds fr (some ⟨g, 0, none⟩) (fl a b c r)) : Does Try.prog 56 [.pointer (some ⟨g, 0, none⟩), .agg (tb 1 y).toArray, .int .i64 0] fr (fun _ : Unit => True) (fun _ => .tuple #[.int .i64 0, .bool true]) (fun _ => fr) := by
  intro w hw
  refine f_enter Try.func56 rfl Try.ntmps56 rfl hw ?_
  repeat' (first
   | (refine s_is ?_; first
   | (refine s_isret ?_; first
   | exact f_r2 rfl (res_t rfl) (res_t rfl) () trivial rfl (fun w h => h.sub (List.sublist_append_right [_] _)))
   | (refine s_isw ?_; first
   | refine c_seq ?_
   | refine c_block ?_
   | refine c_region ?_
   | refine c_mixed mixed (by kernel_rfl) ?_
   | refine c_skip ?_
   | refine c_ret ?_
   | refine c_exit ?_
   | (refine s_iscond ?_; first
   | (refine c_true rfl (by first | with_reducible rfl | with_reducible assumption | ((with_reducible refine decide_eq_true ?_); first | with_reducible rfl | with_reducible assumption | omega)) ?_)
   | (refine c_false rfl (by first | with_reducible rfl | with_reducible assumption | ((with_reducible refine decide_eq_false ?_); first | with_reducible assumption | omega)) ?_)
   | (refine c_true rfl (by first | (simp only [Bool.not_eq_true', decide_eq_false_iff_not]; omega) | (with_reducible assumption) | (rw [decide_eq_false] <;> (first | omega | with_reducible rfl)) | (rw [decide_eq_true] <;> (first | omega | with_reducible rfl)) | (simp; done) | (simp; omega)) ?_)
   | (refine c_false rfl (by first | (simp only [Bool.not_eq_false', decide_eq_true_eq]; omega) | (with_reducible assumption) | (rw [decide_eq_false] <;> (first | omega | with_reducible rfl)) | (rw [decide_eq_true] <;> (first | omega | with_reducible rfl)) | (simp; done) | (simp; omega)) ?_)
   | refine c_cond rfl (fun hc => ?_) (fun hc => ?_)
   | refine c_condb rfl (fun hc => ?_) (fun hc => ?_)))
   | refine x_then ?_
   | refine x_then_ret ?_
   | refine x_then_exit ?_
   | refine x_block _ ?_
   | refine x_block_ret _ ?_
   | refine x_block_exit _ ?_
   | refine x_block_past (by decide) ?_
   | refine z_tailm ?_)
   | (refine z_isg0 ?_; first
   | refine z_skipu (by decide) rfl rfl ?_
   | (refine z_want0 rfl rfl (by first | with_reducible rfl | with_reducible assumption | ((with_reducible refine decide_eq_false ?_); first | with_reducible assumption | omega)) ?_)
   | (refine z_skip0 (by decide) rfl rfl (by first | with_reducible rfl | with_reducible assumption | ((with_reducible refine decide_eq_true ?_); first | with_reducible rfl | with_reducible assumption | omega)) ?_)
   | (refine z_want0 rfl rfl (by first | (simp only [Bool.not_eq_false', decide_eq_true_eq]; omega) | (with_reducible assumption) | (rw [decide_eq_false] <;> (first | omega | with_reducible rfl)) | (rw [decide_eq_true] <;> (first | omega | with_reducible rfl)) | (simp; done) | (simp; omega)) ?_)
   | (refine z_skip0 (by decide) rfl rfl (by first | (simp only [Bool.not_eq_true', decide_eq_false_iff_not]; omega) | (with_reducible assumption) | (rw [decide_eq_false] <;> (first | omega | with_reducible rfl)) | (rw [decide_eq_true] <;> (first | omega | with_reducible rfl)) | (simp; done) | (simp; omega)) ?_)
   | refine z_guard0 (by decide) rfl rfl (fun hc => ?_) (fun hc => ?_)
   | refine z_guardb (by decide) rfl rfl (fun hc => ?_) (fun hc => ?_))
   | (refine z_isnil ?_; first
   | refine z_list ?_
   | refine z_mixed ?_
   | refine z_mono0 ?_
   | refine z_mono1 (by decide) fun g => ?_
   | refine z_mono2 (by decide) (by decide) fun g g' => ?_
   | refine z_mixedx ?_
   | refine z_quiet ?_)
   | (refine z_isop ?_; first
   | refine o_boxa rfl rfl (by decide) fun g => ?_
   | refine o_alloca (e := 80) (vs := tb 0 0) rfl (by kernel_rfl) (by decide) fun g => ?_
   | refine o_alloca (e := 83) (vs := op3 0 0 0) rfl (by kernel_rfl) (by decide) fun g => ?_
   | refine o_build0 (t := 83) (v := .agg (op3 0 0 0).toArray) (fun _ => by kernel_rfl) (by decide) ?_
   | refine o_build0 (t := 80) (v := .agg (tb 0 0).toArray) (fun _ => by kernel_rfl) (by decide) ?_
   | (refine z_isbin ?_; first
   | refine o_eqa cmp80 rfl rfl (tb_typed _ _) (tb_typed _ _) (by decide) ?_
   | (refine z_isb .sub ?_; first
   | refine o_sub rfl rfl (by omega) (by omega) (by decide) ?_
   | refine o_subw rfl rfl (by decide) ?_)
   | (refine z_isb .eql ?_; first
   | refine o_eq rfl rfl (by decide) ?_
   | refine o_beq tabOk rfl rfl rfl (by decide) ?_
   | refine o_peq tabOk rfl rfl (by decide) ?_)
   | (refine z_isb .lss ?_; first
   | refine o_lt rfl rfl (by decide) ?_)
   | (refine z_isb .geq ?_; first
   | refine o_ge rfl rfl (by decide) ?_))
   | (refine z_isload ?_; first
   | refine o_loadr tabOk (Rds.cons _ hrd) rfl rfl rfl (by exact fl_r _ _ _ _) (by decide) ?_
   | (refine z_ld1 tabOk rfl rfl ?_; first
   | refine o_loadm tabOk rfl rfl rfl (by repeat' (first | exact List.mem_cons_self | apply List.mem_cons_of_mem)) (by first | exact tb_0 _ _ | exact tb_1 _ _ | exact tb_l0 _ _ | exact tb_l1 _ _ | exact rl_0 _ | exact op_0 _ _ _ | exact op_1 _ _ _ | exact op_2 _ _ _ | exact fl_r _ _ _ _ | exact fl_a _ _ _ _ | exact rl_all _ (by omega) | rfl) (by decide) ?_
   | refine o_loads tabOk (by first | assumption | exact Rds.cons _ (by assumption) | exact Rds.cons _ (Rds.cons _ (by assumption)) | exact own_rds 0 rfl | exact own_rds 1 rfl | exact own_rds 2 rfl) rfl rfl rfl (by first | exact tb_0 _ _ | exact tb_1 _ _ | exact tb_l0 _ _ | exact tb_l1 _ _ | exact rl_0 _ | exact op_0 _ _ _ | exact op_1 _ _ _ | exact op_2 _ _ _ | exact fl_r _ _ _ _ | exact fl_a _ _ _ _ | exact rl_all _ (by omega) | rfl) (by decide) ?_)
   | (refine z_ldw tabOk rfl rfl ?_; first
   | (refine o_loadwm tabOk rfl rfl rfl (by repeat' (first | exact List.mem_cons_self | apply List.mem_cons_of_mem)) (by first | exact tb_len _ _ | exact op_len _ _ _ | exact fl_len _ _ _ _ | exact rl_len _ | (simp only [tb_len, op_len, fl_len, rl_len]; done) | rfl) (by decide) ?_)))
   | (refine z_ispick ?_; first
   | (refine o_pick1 rfl (by first | with_reducible rfl | with_reducible assumption | ((with_reducible refine decide_eq_true ?_); first | with_reducible rfl | with_reducible assumption | omega)) rfl (by decide) ?_)
   | (refine o_pick0 rfl (by first | with_reducible rfl | with_reducible assumption | ((with_reducible refine decide_eq_false ?_); first | with_reducible assumption | omega)) rfl (by decide) ?_)
   | (refine o_pick1 rfl (by first | (simp only [Bool.not_eq_true', decide_eq_false_iff_not]; omega) | (with_reducible assumption) | (rw [decide_eq_false] <;> (first | omega | with_reducible rfl)) | (rw [decide_eq_true] <;> (first | omega | with_reducible rfl)) | (simp; done) | (simp; omega)) rfl (by decide) ?_)
   | (refine o_pick0 rfl (by first | (simp only [Bool.not_eq_false', decide_eq_true_eq]; omega) | (with_reducible assumption) | (rw [decide_eq_false] <;> (first | omega | with_reducible rfl)) | (rw [decide_eq_true] <;> (first | omega | with_reducible rfl)) | (simp; done) | (simp; omega)) rfl (by decide) ?_))
   | (refine z_isix ?_; first
   | refine o_index0 tabOk rfl rfl rfl rfl (by omega) (by omega) (by decide) ?_
   | refine o_index1 tabOk rfl rfl rfl rfl (by omega) (by omega) (by decide) ?_
   | refine o_indexsk1 tabOk rfl rfl rfl rfl (by omega) (by omega) (by decide) ?_
   | refine o_indexsk tabOk rfl rfl rfl rfl (by omega) (by omega) (by decide) ?_
   | refine o_indexs1 tabOk (by first | assumption) rfl rfl rfl rfl (by omega) (by omega) (by decide) ?_)
   | refine o_move rfl (by decide) ?_
   | refine o_assign rfl (by decide) ?_
   | refine o_nil rfl (by decide) ?_
   | refine o_extract rfl rfl (by decide) ?_
   | refine o_not rfl (by decide) ?_
   | refine o_field0 tabOk rfl rfl rfl rfl rfl (by decide) ?_
   | refine o_field tabOk rfl rfl rfl rfl rfl (by decide) ?_
   | refine o_conv tabOk rfl rfl rfl (by decide) ?_))
theorem at_1 (x a b c r : Int) (hr : r ≠ 0) (g : Nat) (fr : List Chunk) (hrd : Rds fr (some ⟨g, 0, none⟩) (fl a b c r)) : Does Try.prog 56 [.pointer (some ⟨g, 0, none⟩), .agg (tb x 1).toArray, .int .i64 1] fr (fun _ : Unit => True) (fun _ => .tuple #[.int .i64 0, .bool true]) (fun _ => fr) := by
  intro w hw
  refine f_enter Try.func56 rfl Try.ntmps56 rfl hw ?_
  repeat' (first
   | (refine s_is ?_; first
   | (refine s_isret ?_; first
   | exact f_r2 rfl (res_t rfl) (res_t rfl) () trivial rfl (fun w h => h.sub (List.sublist_append_right [_] _)))
   | (refine s_isw ?_; first
   | refine c_seq ?_
   | refine c_block ?_
   | refine c_region ?_
   | refine c_mixed mixed (by kernel_rfl) ?_
   | refine c_skip ?_
   | refine c_ret ?_
   | refine c_exit ?_
   | (refine s_iscond ?_; first
   | (refine c_true rfl (by first | with_reducible rfl | with_reducible assumption | ((with_reducible refine decide_eq_true ?_); first | with_reducible rfl | with_reducible assumption | omega)) ?_)
   | (refine c_false rfl (by first | with_reducible rfl | with_reducible assumption | ((with_reducible refine decide_eq_false ?_); first | with_reducible assumption | omega)) ?_)
   | (refine c_true rfl (by first | (simp only [Bool.not_eq_true', decide_eq_false_iff_not]; omega) | (with_reducible assumption) | (rw [decide_eq_false] <;> (first | omega | with_reducible rfl)) | (rw [decide_eq_true] <;> (first | omega | with_reducible rfl)) | (simp; done) | (simp; omega)) ?_)
   | (refine c_false rfl (by first | (simp only [Bool.not_eq_false', decide_eq_true_eq]; omega) | (with_reducible assumption) | (rw [decide_eq_false] <;> (first | omega | with_reducible rfl)) | (rw [decide_eq_true] <;> (first | omega | with_reducible rfl)) | (simp; done) | (simp; omega)) ?_)
   | refine c_cond rfl (fun hc => ?_) (fun hc => ?_)
   | refine c_condb rfl (fun hc => ?_) (fun hc => ?_)))
   | refine x_then ?_
   | refine x_then_ret ?_
   | refine x_then_exit ?_
   | refine x_block _ ?_
   | refine x_block_ret _ ?_
   | refine x_block_exit _ ?_
   | refine x_block_past (by decide) ?_
   | refine z_tailm ?_)
   | (refine z_isg0 ?_; first
   | refine z_skipu (by decide) rfl rfl ?_
   | (refine z_want0 rfl rfl (by first | with_reducible rfl | with_reducible assumption | ((with_reducible refine decide_eq_false ?_); first | with_reducible assumption | omega)) ?_)
   | (refine z_skip0 (by decide) rfl rfl (by first | with_reducible rfl | with_reducible assumption | ((with_reducible refine decide_eq_true ?_); first | with_reducible rfl | with_reducible assumption | omega)) ?_)
   | (refine z_want0 rfl rfl (by first | (simp only [Bool.not_eq_false', decide_eq_true_eq]; omega) | (with_reducible assumption) | (rw [decide_eq_false] <;> (first | omega | with_reducible rfl)) | (rw [decide_eq_true] <;> (first | omega | with_reducible rfl)) | (simp; done) | (simp; omega)) ?_)
   | (refine z_skip0 (by decide) rfl rfl (by first | (simp only [Bool.not_eq_true', decide_eq_false_iff_not]; omega) | (with_reducible assumption) | (rw [decide_eq_false] <;> (first | omega | with_reducible rfl)) | (rw [decide_eq_true] <;> (first | omega | with_reducible rfl)) | (simp; done) | (simp; omega)) ?_)
   | refine z_guard0 (by decide) rfl rfl (fun hc => ?_) (fun hc => ?_)
   | refine z_guardb (by decide) rfl rfl (fun hc => ?_) (fun hc => ?_))
   | (refine z_isnil ?_; first
   | refine z_list ?_
   | refine z_mixed ?_
   | refine z_mono0 ?_
   | refine z_mono1 (by decide) fun g => ?_
   | refine z_mono2 (by decide) (by decide) fun g g' => ?_
   | refine z_mixedx ?_
   | refine z_quiet ?_)
   | (refine z_isop ?_; first
   | refine o_boxa rfl rfl (by decide) fun g => ?_
   | refine o_alloca (e := 80) (vs := tb 0 0) rfl (by kernel_rfl) (by decide) fun g => ?_
   | refine o_alloca (e := 83) (vs := op3 0 0 0) rfl (by kernel_rfl) (by decide) fun g => ?_
   | refine o_build0 (t := 83) (v := .agg (op3 0 0 0).toArray) (fun _ => by kernel_rfl) (by decide) ?_
   | refine o_build0 (t := 80) (v := .agg (tb 0 0).toArray) (fun _ => by kernel_rfl) (by decide) ?_
   | (refine z_isbin ?_; first
   | refine o_eqa cmp80 rfl rfl (tb_typed _ _) (tb_typed _ _) (by decide) ?_
   | (refine z_isb .sub ?_; first
   | refine o_sub rfl rfl (by omega) (by omega) (by decide) ?_
   | refine o_subw rfl rfl (by decide) ?_)
   | (refine z_isb .eql ?_; first
   | refine o_eq rfl rfl (by decide) ?_
   | refine o_beq tabOk rfl rfl rfl (by decide) ?_
   | refine o_peq tabOk rfl rfl (by decide) ?_)
   | (refine z_isb .lss ?_; first
   | refine o_lt rfl rfl (by decide) ?_)
   | (refine z_isb .geq ?_; first
   | refine o_ge rfl rfl (by decide) ?_))
   | (refine z_isload ?_; first
   | refine o_loadr tabOk (Rds.cons _ hrd) rfl rfl rfl (by exact fl_r _ _ _ _) (by decide) ?_
   | (refine z_ld1 tabOk rfl rfl ?_; first
   | refine o_loadm tabOk rfl rfl rfl (by repeat' (first | exact List.mem_cons_self | apply List.mem_cons_of_mem)) (by first | exact tb_0 _ _ | exact tb_1 _ _ | exact tb_l0 _ _ | exact tb_l1 _ _ | exact rl_0 _ | exact op_0 _ _ _ | exact op_1 _ _ _ | exact op_2 _ _ _ | exact fl_r _ _ _ _ | exact fl_a _ _ _ _ | exact rl_all _ (by omega) | rfl) (by decide) ?_
   | refine o_loads tabOk (by first | assumption | exact Rds.cons _ (by assumption) | exact Rds.cons _ (Rds.cons _ (by assumption)) | exact own_rds 0 rfl | exact own_rds 1 rfl | exact own_rds 2 rfl) rfl rfl rfl (by first | exact tb_0 _ _ | exact tb_1 _ _ | exact tb_l0 _ _ | exact tb_l1 _ _ | exact rl_0 _ | exact op_0 _ _ _ | exact op_1 _ _ _ | exact op_2 _ _ _ | exact fl_r _ _ _ _ | exact fl_a _ _ _ _ | exact rl_all _ (by omega) | rfl) (by decide) ?_)
   | (refine z_ldw tabOk rfl rfl ?_; first
   | (refine o_loadwm tabOk rfl rfl rfl (by repeat' (first | exact List.mem_cons_self | apply List.mem_cons_of_mem)) (by first | exact tb_len _ _ | exact op_len _ _ _ | exact fl_len _ _ _ _ | exact rl_len _ | (simp only [tb_len, op_len, fl_len, rl_len]; done) | rfl) (by decide) ?_)))
   | (refine z_ispick ?_; first
   | (refine o_pick1 rfl (by first | with_reducible rfl | with_reducible assumption | ((with_reducible refine decide_eq_true ?_); first | with_reducible rfl | with_reducible assumption | omega)) rfl (by decide) ?_)
   | (refine o_pick0 rfl (by first | with_reducible rfl | with_reducible assumption | ((with_reducible refine decide_eq_false ?_); first | with_reducible assumption | omega)) rfl (by decide) ?_)
   | (refine o_pick1 rfl (by first | (simp only [Bool.not_eq_true', decide_eq_false_iff_not]; omega) | (with_reducible assumption) | (rw [decide_eq_false] <;> (first | omega | with_reducible rfl)) | (rw [decide_eq_true] <;> (first | omega | with_reducible rfl)) | (simp; done) | (simp; omega)) rfl (by decide) ?_)
   | (refine o_pick0 rfl (by first | (simp only [Bool.not_eq_false', decide_eq_true_eq]; omega) | (with_reducible assumption) | (rw [decide_eq_false] <;> (first | omega | with_reducible rfl)) | (rw [decide_eq_true] <;> (first | omega | with_reducible rfl)) | (simp; done) | (simp; omega)) rfl (by decide) ?_))
   | (refine z_isix ?_; first
   | refine o_index0 tabOk rfl rfl rfl rfl (by omega) (by omega) (by decide) ?_
   | refine o_index1 tabOk rfl rfl rfl rfl (by omega) (by omega) (by decide) ?_
   | refine o_indexsk1 tabOk rfl rfl rfl rfl (by omega) (by omega) (by decide) ?_
   | refine o_indexsk tabOk rfl rfl rfl rfl (by omega) (by omega) (by decide) ?_
   | refine o_indexs1 tabOk (by first | assumption) rfl rfl rfl rfl (by omega) (by omega) (by decide) ?_)
   | refine o_move rfl (by decide) ?_
   | refine o_assign rfl (by decide) ?_
   | refine o_nil rfl (by decide) ?_
   | refine o_extract rfl rfl (by decide) ?_
   | refine o_not rfl (by decide) ?_
   | refine o_field0 tabOk rfl rfl rfl rfl rfl (by decide) ?_
   | refine o_field tabOk rfl rfl rfl rfl rfl (by decide) ?_
   | refine o_conv tabOk rfl rfl rfl (by decide) ?_))
set_option maxHeartbeats 1000000 in
theorem open_1 (F : Nat) : Does Try.prog 36 [.pointer (some ⟨F, 0, none⟩), .agg (tb 0 0).toArray, .agg (op3 1 3 0).toArray] [cells F 117 (fl 0 0 0 0)] (fun _ : Unit => True) (fun _ => .tuple #[.agg (tb 1 0).toArray, .int .i64 0, .int .i64 0]) (fun _ => [cells F 117 (fl 1 3 0 1)]) := by
  intro w hw
  refine f_enter Try.func36 rfl Try.ntmps36 rfl hw ?_
  repeat' (first
   | ((refine s_sel 4 [3, 0, 1, 2] (by decide) ?_; refine c_free1 ⟨[], []⟩ [0, 1, 2, 3, 4, 5, 6, 7, 9, 10, 8, 11, 12] (id := 12) mixed (by kernel_rfl) ?_))
   | refine z_mono0w ?_
   | (refine s_is ?_; first
   | (refine s_isret ?_; first
   | exact f_r3 rfl (res_c tabOk rfl rfl rfl 1 rfl (tb_len _ _)) (res_t rfl) (res_t rfl) () trivial rfl (fun w h => ((h.sel 4 [0, 1, 2, 3] (by decide)).mask [true, false, false, false])))
   | (refine s_isw ?_; first
   | (refine s_isloop ?_; first
   | ((rename_i g4 g5; refine c_loop (X := Unit) (fun _ => True) (fun _ => [(0, .pointer (some ⟨F, 0, none⟩)), (4, .pointer (some ⟨g4, 0, none⟩)), (5, .pointer (some ⟨g5, 0, none⟩)), (6, .pointer (some ⟨g, 0, none⟩)), (9, .int .i64 0), (49, .agg (rl 0).toArray), (50, .int .i64 0)]) (fun _ => [cells g 80 (tb 0 0), cells g5 83 (op3 1 3 0), cells g4 80 (tb 0 0), cells F 117 (fl 0 0 0 0)]) (fun _ => 0) () trivial ⟨rfl, rfl, rfl, rfl, rfl, rfl, rfl, trivial⟩ (fun w h => h) (fun _ _ => ?_))))
   | refine c_seq ?_
   | refine c_block ?_
   | refine c_region ?_
   | refine c_mixed mixed (by kernel_rfl) ?_
   | refine c_skip ?_
   | refine c_ret ?_
   | refine c_exit ?_
   | (refine s_iscond ?_; first
   | (refine c_true rfl (by first | with_reducible rfl | with_reducible assumption | ((with_reducible refine decide_eq_true ?_); first | with_reducible rfl | with_reducible assumption | omega)) ?_)
   | (refine c_false rfl (by first | with_reducible rfl | with_reducible assumption | ((with_reducible refine decide_eq_false ?_); first | with_reducible assumption | omega)) ?_)
   | (refine c_true rfl (by first | (simp only [Bool.not_eq_true', decide_eq_false_iff_not]; omega) | (with_reducible assumption) | (rw [decide_eq_false] <;> (first | omega | with_reducible rfl)) | (rw [decide_eq_true] <;> (first | omega | with_reducible rfl)) | (simp; done) | (simp; omega)) ?_)
   | (refine c_false rfl (by first | (simp only [Bool.not_eq_false', decide_eq_true_eq]; omega) | (with_reducible assumption) | (rw [decide_eq_false] <;> (first | omega | with_reducible rfl)) | (rw [decide_eq_true] <;> (first | omega | with_reducible rfl)) | (simp; done) | (simp; omega)) ?_)
   | refine c_cond rfl (fun hc => ?_) (fun hc => ?_)
   | refine c_condb rfl (fun hc => ?_) (fun hc => ?_)))
   | refine x_then ?_
   | refine x_then_ret ?_
   | refine x_then_exit ?_
   | refine x_block _ ?_
   | refine x_block_ret _ ?_
   | refine x_block_exit _ ?_
   | refine x_block_past (by decide) ?_
   | refine z_tailm ?_)
   | (refine z_isg0 ?_; first
   | refine z_skipu (by decide) rfl rfl ?_
   | (refine z_want0 rfl rfl (by first | with_reducible rfl | with_reducible assumption | ((with_reducible refine decide_eq_false ?_); first | with_reducible assumption | omega)) ?_)
   | (refine z_skip0 (by decide) rfl rfl (by first | with_reducible rfl | with_reducible assumption | ((with_reducible refine decide_eq_true ?_); first | with_reducible rfl | with_reducible assumption | omega)) ?_)
   | (refine z_want0 rfl rfl (by first | (simp only [Bool.not_eq_false', decide_eq_true_eq]; omega) | (with_reducible assumption) | (rw [decide_eq_false] <;> (first | omega | with_reducible rfl)) | (rw [decide_eq_true] <;> (first | omega | with_reducible rfl)) | (simp; done) | (simp; omega)) ?_)
   | (refine z_skip0 (by decide) rfl rfl (by first | (simp only [Bool.not_eq_true', decide_eq_false_iff_not]; omega) | (with_reducible assumption) | (rw [decide_eq_false] <;> (first | omega | with_reducible rfl)) | (rw [decide_eq_true] <;> (first | omega | with_reducible rfl)) | (simp; done) | (simp; omega)) ?_)
   | refine z_guard0 (by decide) rfl rfl (fun hc => ?_) (fun hc => ?_)
   | refine z_guardb (by decide) rfl rfl (fun hc => ?_) (fun hc => ?_))
   | (refine z_isnil ?_; first
   | refine z_list ?_
   | refine z_mixed ?_
   | refine z_mono0 ?_
   | refine z_mono1 (by decide) fun g => ?_
   | refine z_mono2 (by decide) (by decide) fun g g' => ?_
   | refine z_mixedx ?_
   | refine z_quiet ?_)
   | (refine z_isop ?_; first
   | refine o_boxa rfl rfl (by decide) fun g => ?_
   | refine o_alloca (e := 80) (vs := tb 0 0) rfl (by kernel_rfl) (by decide) fun g => ?_
   | refine o_alloca (e := 83) (vs := op3 0 0 0) rfl (by kernel_rfl) (by decide) fun g => ?_
   | refine o_build0 (t := 83) (v := .agg (op3 0 0 0).toArray) (fun _ => by kernel_rfl) (by decide) ?_
   | refine o_build0 (t := 80) (v := .agg (tb 0 0).toArray) (fun _ => by kernel_rfl) (by decide) ?_
   | refine o_indexm tabOk rfl rfl rfl rfl (by omega) (by omega) (by decide) ?_
   | (refine z_isbin ?_; first
   | refine o_eqa cmp80 rfl rfl (tb_typed _ _) (tb_typed _ _) (by decide) ?_
   | (refine z_isb .add ?_; first
   | refine o_add rfl rfl (by omega) (by omega) (by decide) ?_
   | refine o_addw rfl rfl (by decide) ?_)
   | (refine z_isb .eql ?_; first
   | refine o_eq rfl rfl (by decide) ?_
   | refine o_beq tabOk rfl rfl rfl (by decide) ?_
   | refine o_peq tabOk rfl rfl (by decide) ?_)
   | (refine z_isb .lss ?_; first
   | refine o_lt rfl rfl (by decide) ?_)
   | (refine z_isb .gtr ?_; first
   | refine o_gt rfl rfl (by decide) ?_))
   | (refine z_isload ?_; first
   | refine o_loadr tabOk (Rds.cons _ hrd) rfl rfl rfl (by exact fl_r _ _ _ _) (by decide) ?_
   | refine o_loadp tabOk rfl rfl rfl 3 rfl (rl_len _) (fl_rs _ _ _ _) (by decide) ?_
   | refine o_loadp tabOk rfl rfl rfl 0 rfl (rl_len _) (fl_rs _ _ _ _) (by decide) ?_
   | (refine z_ld1 tabOk rfl rfl ?_; first
   | refine o_loadm tabOk rfl rfl rfl (by repeat' (first | exact List.mem_cons_self | apply List.mem_cons_of_mem)) (by first | exact tb_0 _ _ | exact tb_1 _ _ | exact tb_l0 _ _ | exact tb_l1 _ _ | exact rl_0 _ | exact op_0 _ _ _ | exact op_1 _ _ _ | exact op_2 _ _ _ | exact fl_r _ _ _ _ | exact fl_a _ _ _ _ | exact rl_all _ (by omega) | rfl) (by decide) ?_
   | refine o_loads tabOk (by first | assumption | exact Rds.cons _ (by assumption) | exact Rds.cons _ (Rds.cons _ (by assumption)) | exact own_rds 0 rfl | exact own_rds 1 rfl | exact own_rds 2 rfl) rfl rfl rfl (by first | exact tb_0 _ _ | exact tb_1 _ _ | exact tb_l0 _ _ | exact tb_l1 _ _ | exact rl_0 _ | exact op_0 _ _ _ | exact op_1 _ _ _ | exact op_2 _ _ _ | exact fl_r _ _ _ _ | exact fl_a _ _ _ _ | exact rl_all _ (by omega) | rfl) (by decide) ?_)
   | (refine z_ldw tabOk rfl rfl ?_; first
   | (refine o_loadwm tabOk rfl rfl rfl (by repeat' (first | exact List.mem_cons_self | apply List.mem_cons_of_mem)) (by first | exact tb_len _ _ | exact op_len _ _ _ | exact fl_len _ _ _ _ | exact rl_len _ | (simp only [tb_len, op_len, fl_len, rl_len]; done) | rfl) (by decide) ?_)))
   | (refine z_isstore ?_; first
   | (refine o_storewv 0 tabOk rfl rfl rfl rfl rfl (op_len _ _ _) (op_one _ _ _) (by simp only [fl_len, op_len]; decide) (by exact fl_put _ _ _ _ _ _ _) ?_)
   | refine o_storev 0 tabOk rfl rfl rfl rfl rfl rfl rfl (by exact fl_r _ _ _ _) (by exact fl_setr _ _ _ _ _) ?_
   | (refine z_stw rfl ?_; first
   | ((refine z_sti 0 rfl rfl ?_; refine o_storeb0 rfl tabOk rfl rfl rfl (by first | exact tb_len _ _ | exact op_len _ _ _ | exact fl_len _ _ _ _ | exact rl_len _ | (simp only [tb_len, op_len, fl_len, rl_len]; done) | rfl) (by first | exact tb_one _ _ | exact op_one _ _ _ | exact fl_one _ _ _ _ | rfl) (by first | exact tb_len _ _ | exact op_len _ _ _ | exact fl_len _ _ _ _ | exact rl_len _ | (simp only [tb_len, op_len, fl_len, rl_len]; done) | rfl) ?_))
   | ((refine z_sti 1 rfl rfl ?_; refine o_storeb1 rfl tabOk rfl rfl rfl (by first | exact tb_len _ _ | exact op_len _ _ _ | exact fl_len _ _ _ _ | exact rl_len _ | (simp only [tb_len, op_len, fl_len, rl_len]; done) | rfl) (by first | exact tb_one _ _ | exact op_one _ _ _ | exact fl_one _ _ _ _ | rfl) (by first | exact tb_len _ _ | exact op_len _ _ _ | exact fl_len _ _ _ _ | exact rl_len _ | (simp only [tb_len, op_len, fl_len, rl_len]; done) | rfl) ?_))
   | ((refine z_sti 2 rfl rfl ?_; refine o_storeb2 rfl tabOk rfl rfl rfl (by first | exact tb_len _ _ | exact op_len _ _ _ | exact fl_len _ _ _ _ | exact rl_len _ | (simp only [tb_len, op_len, fl_len, rl_len]; done) | rfl) (by first | exact tb_one _ _ | exact op_one _ _ _ | exact fl_one _ _ _ _ | rfl) (by first | exact tb_len _ _ | exact op_len _ _ _ | exact fl_len _ _ _ _ | exact rl_len _ | (simp only [tb_len, op_len, fl_len, rl_len]; done) | rfl) ?_))
   | ((refine z_sti 3 rfl rfl ?_; refine o_storeb3 rfl tabOk rfl rfl rfl (by first | exact tb_len _ _ | exact op_len _ _ _ | exact fl_len _ _ _ _ | exact rl_len _ | (simp only [tb_len, op_len, fl_len, rl_len]; done) | rfl) (by first | exact tb_one _ _ | exact op_one _ _ _ | exact fl_one _ _ _ _ | rfl) (by first | exact tb_len _ _ | exact op_len _ _ _ | exact fl_len _ _ _ _ | exact rl_len _ | (simp only [tb_len, op_len, fl_len, rl_len]; done) | rfl) ?_))
   | ((refine z_sti 4 rfl rfl ?_; refine o_storeb4 rfl tabOk rfl rfl rfl (by first | exact tb_len _ _ | exact op_len _ _ _ | exact fl_len _ _ _ _ | exact rl_len _ | (simp only [tb_len, op_len, fl_len, rl_len]; done) | rfl) (by first | exact tb_one _ _ | exact op_one _ _ _ | exact fl_one _ _ _ _ | rfl) (by first | exact tb_len _ _ | exact op_len _ _ _ | exact fl_len _ _ _ _ | exact rl_len _ | (simp only [tb_len, op_len, fl_len, rl_len]; done) | rfl) ?_))
   | ((refine z_sti 5 rfl rfl ?_; refine o_storeb5 rfl tabOk rfl rfl rfl (by first | exact tb_len _ _ | exact op_len _ _ _ | exact fl_len _ _ _ _ | exact rl_len _ | (simp only [tb_len, op_len, fl_len, rl_len]; done) | rfl) (by first | exact tb_one _ _ | exact op_one _ _ _ | exact fl_one _ _ _ _ | rfl) (by first | exact tb_len _ _ | exact op_len _ _ _ | exact fl_len _ _ _ _ | exact rl_len _ | (simp only [tb_len, op_len, fl_len, rl_len]; done) | rfl) ?_))
   | ((refine z_sti 6 rfl rfl ?_; refine o_storeb6 rfl tabOk rfl rfl rfl (by first | exact tb_len _ _ | exact op_len _ _ _ | exact fl_len _ _ _ _ | exact rl_len _ | (simp only [tb_len, op_len, fl_len, rl_len]; done) | rfl) (by first | exact tb_one _ _ | exact op_one _ _ _ | exact fl_one _ _ _ _ | rfl) (by first | exact tb_len _ _ | exact op_len _ _ _ | exact fl_len _ _ _ _ | exact rl_len _ | (simp only [tb_len, op_len, fl_len, rl_len]; done) | rfl) ?_)))
   | (refine z_st1 rfl rfl ?_; first
   | refine o_store rfl tabOk rfl rfl rfl rfl rfl (by first | exact tb_0 _ _ | exact tb_1 _ _ | exact tb_l0 _ _ | exact tb_l1 _ _ | exact rl_0 _ | exact op_0 _ _ _ | exact op_1 _ _ _ | exact op_2 _ _ _ | exact fl_r _ _ _ _ | exact fl_a _ _ _ _ | exact rl_all _ (by omega) | rfl) (by first | exact tb_set0 _ _ _ | exact tb_set1 _ _ _ | exact fl_setr _ _ _ _ _ | rfl) ?_
   | ((refine z_sti 1 rfl rfl ?_; refine o_store1 rfl tabOk rfl rfl rfl rfl rfl (by first | exact tb_0 _ _ | exact tb_1 _ _ | exact tb_l0 _ _ | exact tb_l1 _ _ | exact rl_0 _ | exact op_0 _ _ _ | exact op_1 _ _ _ | exact op_2 _ _ _ | exact fl_r _ _ _ _ | exact fl_a _ _ _ _ | exact rl_all _ (by omega) | rfl) (by first | exact tb_set0 _ _ _ | exact tb_set1 _ _ _ | exact fl_setr _ _ _ _ _ | rfl) ?_))
   | ((refine z_sti 2 rfl rfl ?_; refine o_store2 rfl tabOk rfl rfl rfl rfl rfl (by first | exact tb_0 _ _ | exact tb_1 _ _ | exact tb_l0 _ _ | exact tb_l1 _ _ | exact rl_0 _ | exact op_0 _ _ _ | exact op_1 _ _ _ | exact op_2 _ _ _ | exact fl_r _ _ _ _ | exact fl_a _ _ _ _ | exact rl_all _ (by omega) | rfl) (by first | exact tb_set0 _ _ _ | exact tb_set1 _ _ _ | exact fl_setr _ _ _ _ _ | rfl) ?_))
   | ((refine z_sti 3 rfl rfl ?_; refine o_store3 rfl tabOk rfl rfl rfl rfl rfl (by first | exact tb_0 _ _ | exact tb_1 _ _ | exact tb_l0 _ _ | exact tb_l1 _ _ | exact rl_0 _ | exact op_0 _ _ _ | exact op_1 _ _ _ | exact op_2 _ _ _ | exact fl_r _ _ _ _ | exact fl_a _ _ _ _ | exact rl_all _ (by omega) | rfl) (by first | exact tb_set0 _ _ _ | exact tb_set1 _ _ _ | exact fl_setr _ _ _ _ _ | rfl) ?_))
   | ((refine z_sti 4 rfl rfl ?_; refine o_store4 rfl tabOk rfl rfl rfl rfl rfl (by first | exact tb_0 _ _ | exact tb_1 _ _ | exact tb_l0 _ _ | exact tb_l1 _ _ | exact rl_0 _ | exact op_0 _ _ _ | exact op_1 _ _ _ | exact op_2 _ _ _ | exact fl_r _ _ _ _ | exact fl_a _ _ _ _ | exact rl_all _ (by omega) | rfl) (by first | exact tb_set0 _ _ _ | exact tb_set1 _ _ _ | exact fl_setr _ _ _ _ _ | rfl) ?_))
   | ((refine z_sti 5 rfl rfl ?_; refine o_store5 rfl tabOk rfl rfl rfl rfl rfl (by first | exact tb_0 _ _ | exact tb_1 _ _ | exact tb_l0 _ _ | exact tb_l1 _ _ | exact rl_0 _ | exact op_0 _ _ _ | exact op_1 _ _ _ | exact op_2 _ _ _ | exact fl_r _ _ _ _ | exact fl_a _ _ _ _ | exact rl_all _ (by omega) | rfl) (by first | exact tb_set0 _ _ _ | exact tb_set1 _ _ _ | exact fl_setr _ _ _ _ _ | rfl) ?_))
   | ((refine z_sti 6 rfl rfl ?_; refine o_store6 rfl tabOk rfl rfl rfl rfl rfl (by first | exact tb_0 _ _ | exact tb_1 _ _ | exact tb_l0 _ _ | exact tb_l1 _ _ | exact rl_0 _ | exact op_0 _ _ _ | exact op_1 _ _ _ | exact op_2 _ _ _ | exact fl_r _ _ _ _ | exact fl_a _ _ _ _ | exact rl_all _ (by omega) | rfl) (by first | exact tb_set0 _ _ _ | exact tb_set1 _ _ _ | exact fl_setr _ _ _ _ _ | rfl) ?_))))
   | (refine z_isindex ?_; first
   | refine o_ixv tabOk rfl rfl rfl rfl rfl (by omega) (by omega) (by first | exact tb_0 _ _ | exact tb_1 _ _ | exact tb_l0 _ _ | exact tb_l1 _ _ | exact rl_0 _ | exact op_0 _ _ _ | exact op_1 _ _ _ | exact op_2 _ _ _ | exact fl_r _ _ _ _ | exact fl_a _ _ _ _ | exact rl_all _ (by omega) | rfl) (by decide) ?_)
   | (refine z_iscall ?_; first
   | ((refine z_iscallf 55 ?_; refine o_fn rfl Try.func55 rfl rfl rfl (free_n) (by decide) ?_)))
   | (refine z_ispick ?_; first
   | (refine o_pick1 rfl (by first | with_reducible rfl | with_reducible assumption | ((with_reducible refine decide_eq_true ?_); first | with_reducible rfl | with_reducible assumption | omega)) rfl (by decide) ?_)
   | (refine o_pick0 rfl (by first | with_reducible rfl | with_reducible assumption | ((with_reducible refine decide_eq_false ?_); first | with_reducible assumption | omega)) rfl (by decide) ?_)
   | (refine o_pick1 rfl (by first | (simp only [Bool.not_eq_true', decide_eq_false_iff_not]; omega) | (with_reducible assumption) | (rw [decide_eq_false] <;> (first | omega | with_reducible rfl)) | (rw [decide_eq_true] <;> (first | omega | with_reducible rfl)) | (simp; done) | (simp; omega)) rfl (by decide) ?_)
   | (refine o_pick0 rfl (by first | (simp only [Bool.not_eq_false', decide_eq_true_eq]; omega) | (with_reducible assumption) | (rw [decide_eq_false] <;> (first | omega | with_reducible rfl)) | (rw [decide_eq_true] <;> (first | omega | with_reducible rfl)) | (simp; done) | (simp; omega)) rfl (by decide) ?_))
   | (refine z_isix ?_; first
   | refine o_index0 tabOk rfl rfl rfl rfl (by omega) (by omega) (by decide) ?_
   | refine o_index1 tabOk rfl rfl rfl rfl (by omega) (by omega) (by decide) ?_
   | refine o_indexsk1 tabOk rfl rfl rfl rfl (by omega) (by omega) (by decide) ?_
   | refine o_indexsk tabOk rfl rfl rfl rfl (by omega) (by omega) (by decide) ?_
   | refine o_indexs1 tabOk (by first | assumption) rfl rfl rfl rfl (by omega) (by omega) (by decide) ?_)
   | refine o_move rfl (by decide) ?_
   | refine o_assign rfl (by decide) ?_
   | refine o_nil rfl (by decide) ?_
   | refine o_extract rfl rfl (by decide) ?_
   | refine o_not rfl (by decide) ?_
   | refine o_field0 tabOk rfl rfl rfl rfl rfl (by decide) ?_
   | refine o_field tabOk rfl rfl rfl rfl rfl (by decide) ?_
   | refine o_conv tabOk rfl rfl rfl (by decide) ?_))
end Go.Proofs.Ytmfnjmmdchlkiaa
