/-
Tables of open files, none given: what is told.
-/
import Derived.Test.YtmfnjmmdchlkiaaTab
import Derived.Test.YtmfnjmmdchlkiaaEngV
namespace Go.Proofs.Ytmfnjmmdchlkiaa
set_option linter.unusedVariables false
set_option linter.unusedSimpArgs false
open Eng
/-- A table of eight: two are told. -/
def tb (x y : Int) : List Value := .int .i64 x :: .int .i64 y :: List.replicate 6 (.int .i64 0)
theorem tb_len (x y : Int) : (tb x y).length = 8 := rfl
theorem tb_one (x y : Int) : (tb x y).all (·.oneCell') = true := rfl
theorem tb_0 (x y : Int) : (tb x y)[(0 : Int).toNat]? = some (.int .i64 x) := rfl
theorem tb_1 (x y : Int) : (tb x y)[(1 : Int).toNat]? = some (.int .i64 y) := rfl
def op3 (a b c : Int) : List Value := [.int .i64 a, .int .i64 b, .int .i64 c]
theorem op_len (a b c : Int) : (op3 a b c).length = 3 := rfl
theorem op_one (a b c : Int) : (op3 a b c).all (·.oneCell') = true := rfl
theorem op_0 (a b c : Int) : (op3 a b c)[0]? = some (.int .i64 a) := rfl
theorem op_1 (a b c : Int) : (op3 a b c)[1]? = some (.int .i64 b) := rfl
theorem op_2 (a b c : Int) : (op3 a b c)[2]? = some (.int .i64 c) := rfl
/-- The files: one, and how many have it. -/
def fl (a b c r : Int) : List Value := op3 a b c ++ List.replicate 45 (.int .i64 0) ++ (.int .i64 r :: List.replicate 15 (.int .i64 0))
theorem fl_len (a b c r : Int) : (fl a b c r).length = 64 := rfl
theorem fl_one (a b c r : Int) : (fl a b c r).all (·.oneCell') = true := rfl
theorem fl_r (a b c r : Int) : (fl a b c r)[48]? = some (.int .i64 r) := rfl
theorem fl_a (a b c r : Int) : (fl a b c r)[0]? = some (.int .i64 a) := rfl
def tbK : List CK := List.replicate 8 (.int .i64)
theorem tb_typed (x y : Int) : Typed tbK (tb x y) := ⟨rfl, rfl, rfl, rfl, rfl, rfl, rfl, rfl, trivial⟩
theorem cmp80 : Cmp Try.prog 80 tbK := ⟨by kernel_rfl, .inr ⟨_, Try.underlying80⟩, by kernel_rfl⟩
theorem tb_same (x y : Int) : eqB (tb x y) (tb x y) = true := (eqB_iff (tb_typed x y) (tb_typed x y)).2 rfl
section
variable {P : Program} {n : Nat} {l : Fr} {B : Base} {hp : List Chunk} {fn : Func} {X : Type} {ok : X → Prop} {v : X → Value} {po : X → List Chunk}
theorem f_r4 {r r' r'' r3 : ResultVar} {u u' u'' u3 : Value} (hr : fn.results = #[r, r', r'', r3]) (h1 : Res1 P n l B hp r u) (h2 : Res1 P n l B hp r' u') (h3 : Res1 P n l B hp r'' u'') (h4 : Res1 P n l B hp r3 u3) (x : X) (hok : ok x) (hv : v x = .tuple #[u, u', u'', u3]) (hS' : ∀ w, St B w hp → St B w (po x)) :
    S n l B hp (bodyPost P fn (fun e w' => ∃ x, ok x ∧ e = .returned (v x) ∧ St B w' (po x)) .ret) := fun a w hA hS =>
  ⟨hA.defers, .tuple #[u, u', u'', u3], by simp [run_results, hr, h1 a w hA hS, h2 a w hA hS, h3 a w hA hS, h4 a w hA hS, Sem.run_bind, Sem.run_pure, Result.andThen], x, hok, by rw [hv], hS' w hS⟩
end
attribute [local irreducible] Eng.Hold Eng.Z Eng.S Eng.cells Eng.old Eng.own tb op3 fl
theorem free_n : Pf Try.prog 55 [.agg (tb 0 0).toArray] (.tuple #[.int .i64 0, .bool true]) := by
  intro w hw
  refine f_enter Try.func55 rfl Try.ntmps55 rfl hw ?_
  repeat' (first
   | (refine s_is ?_; first
   | (refine s_isret ?_; first
   | exact f_r2 rfl (res_t rfl) (res_t rfl) () trivial rfl (fun w h => h.none))
   | (refine s_isw ?_; first
   | (refine s_isloop ?_; first
   | (refine c_loop (X := Unit) (fun _ => True) (fun _ => [(7, .agg (tb 0 0).toArray), (8, .int .i64 0)]) (fun _ => []) (fun _ => 0) () trivial ⟨rfl, rfl, trivial⟩ (fun w h => h.none) (fun _ _ => ?_)))
   | refine c_seq ?_
   | refine c_block ?_
   | refine c_region ?_
   | refine c_mixed mixed (by kernel_rfl) ?_
   | refine c_skip ?_
   | refine c_ret ?_
   | refine c_exit ?_
   | (refine s_iscond ?_; first
   | (refine c_true rfl (by first | with_reducible rfl | with_reducible assumption | ((with_reducible refine decide_eq_true ?_); first | with_reducible rfl | with_reducible assumption | omega)) ?_)
   | (refine c_false rfl (by first | with_reducible rfl | with_reducible assumption | ((with_reducible refine decide_eq_false ?_); first | with_reducible assumption | omega)) ?_)
   | (refine c_true rfl (by first | (simp only [Bool.not_eq_true', decide_eq_false_iff_not]; omega) | (with_reducible assumption) | (rw [decide_eq_false] <;> (first | omega | with_reducible rfl)) | (rw [decide_eq_true] <;> (first | omega | with_reducible rfl)) | (simp; done) | (simp; omega)) ?_)
   | (refine c_false rfl (by first | (simp only [Bool.not_eq_false', decide_eq_true_eq]; omega) | (with_reducible assumption) | (rw [decide_eq_false] <;> (first | omega | with_reducible rfl)) | (rw [decide_eq_true] <;> (first | omega | with_reducible rfl)) | (simp; done) | (simp; omega)) ?_)
   | refine c_cond rfl (fun hc => ?_) (fun hc => ?_)
   | refine c_condb rfl (fun hc => ?_) (fun hc => ?_)))
   | refine x_then ?_
   | refine x_then_ret ?_
   | refine x_then_exit ?_
   | refine x_block _ ?_
   | refine x_block_ret _ ?_
   | refine x_block_exit _ ?_
   | refine x_block_past (by decide) ?_
   | refine z_tailm ?_)
   | (refine z_isnil ?_; first
   | refine z_list ?_
   | refine z_mixed ?_
   | refine z_mono0 ?_
   | refine z_mono1 (by decide) fun g => ?_
   | refine z_mono2 (by decide) (by decide) fun g g' => ?_
   | refine z_mixedx ?_
   | refine z_quiet ?_)
   | (refine z_isop ?_; first
   | refine o_boxa rfl rfl (by decide) fun g => ?_
   | refine o_alloca (e := 80) (vs := tb 0 0) rfl (by kernel_rfl) (by decide) fun g => ?_
   | refine o_alloca (e := 83) (vs := op3 0 0 0) rfl (by kernel_rfl) (by decide) fun g => ?_
   | refine o_build0 (t := 83) (v := .agg (op3 0 0 0).toArray) (fun _ => by kernel_rfl) (by decide) ?_
   | refine o_build0 (t := 80) (v := .agg (tb 0 0).toArray) (fun _ => by kernel_rfl) (by decide) ?_
   | (refine z_isbin ?_; first
   | refine o_eqa cmp80 rfl rfl (tb_typed _ _) (tb_typed _ _) (by decide) ?_
   | (refine z_isb .add ?_; first
   | refine o_add rfl rfl (by omega) (by omega) (by decide) ?_
   | refine o_addw rfl rfl (by decide) ?_)
   | (refine z_isb .eql ?_; first
   | refine o_eq rfl rfl (by decide) ?_
   | refine o_beq tabOk rfl rfl rfl (by decide) ?_
   | refine o_peq tabOk rfl rfl (by decide) ?_)
   | (refine z_isb .lss ?_; first
   | refine o_lt rfl rfl (by decide) ?_))
   | (refine z_isload ?_; first
   | (refine z_ld1 tabOk rfl rfl ?_; first
   | refine o_loadm tabOk rfl rfl rfl (by repeat' (first | exact List.mem_cons_self | apply List.mem_cons_of_mem)) (by first | exact tb_0 _ _ | exact tb_1 _ _ | exact op_0 _ _ _ | exact op_1 _ _ _ | exact op_2 _ _ _ | exact fl_r _ _ _ _ | exact fl_a _ _ _ _ | rfl) (by decide) ?_
   | refine o_loads tabOk (by first | assumption | exact Rds.cons _ (by assumption) | exact Rds.cons _ (Rds.cons _ (by assumption)) | exact own_rds 0 rfl | exact own_rds 1 rfl | exact own_rds 2 rfl) rfl rfl rfl (by first | exact tb_0 _ _ | exact tb_1 _ _ | exact op_0 _ _ _ | exact op_1 _ _ _ | exact op_2 _ _ _ | exact fl_r _ _ _ _ | exact fl_a _ _ _ _ | rfl) (by decide) ?_)
   | (refine z_ldw tabOk rfl rfl ?_; first
   | (refine o_loadwm tabOk rfl rfl rfl (by repeat' (first | exact List.mem_cons_self | apply List.mem_cons_of_mem)) (by first | exact tb_len _ _ | exact op_len _ _ _ | exact fl_len _ _ _ _ | (simp only [tb_len, op_len, fl_len]; done) | rfl) (by decide) ?_)))
   | (refine z_isindex ?_; first
   | refine o_ixv tabOk rfl rfl rfl rfl rfl (by omega) (by omega) (by first | exact tb_0 _ _ | exact tb_1 _ _ | exact op_0 _ _ _ | exact op_1 _ _ _ | exact op_2 _ _ _ | exact fl_r _ _ _ _ | exact fl_a _ _ _ _ | rfl) (by decide) ?_)
   | refine o_move rfl (by decide) ?_
   | refine o_assign rfl (by decide) ?_
   | refine o_nil rfl (by decide) ?_
   | refine o_extract rfl rfl (by decide) ?_
   | refine o_not rfl (by decide) ?_
   | refine o_field0 tabOk rfl rfl rfl rfl rfl (by decide) ?_
   | refine o_field tabOk rfl rfl rfl rfl rfl (by decide) ?_
   | refine o_conv tabOk rfl rfl rfl (by decide) ?_))
theorem at_nil (i : Int) : Pf Try.prog 56 [.pointer none, .agg (tb 0 0).toArray, .int .i64 i] (.tuple #[.int .i64 0, .bool false]) := by
  intro w hw
  refine f_enter Try.func56 rfl Try.ntmps56 rfl hw ?_
  repeat' (first
   | (refine s_is ?_; first
   | (refine s_isret ?_; first
   | exact f_r2 rfl (res_t rfl) (res_t rfl) () trivial rfl (fun w h => h.none))
   | (refine s_isw ?_; first
   | refine c_seq ?_
   | refine c_block ?_
   | refine c_region ?_
   | refine c_mixed mixed (by kernel_rfl) ?_
   | refine c_skip ?_
   | refine c_ret ?_
   | refine c_exit ?_
   | (refine s_iscond ?_; first
   | (refine c_true rfl (by first | with_reducible rfl | with_reducible assumption | ((with_reducible refine decide_eq_true ?_); first | with_reducible rfl | with_reducible assumption | omega)) ?_)
   | (refine c_false rfl (by first | with_reducible rfl | with_reducible assumption | ((with_reducible refine decide_eq_false ?_); first | with_reducible assumption | omega)) ?_)
   | (refine c_true rfl (by first | (simp only [Bool.not_eq_true', decide_eq_false_iff_not]; omega) | (with_reducible assumption) | (rw [decide_eq_false] <;> (first | omega | with_reducible rfl)) | (rw [decide_eq_true] <;> (first | omega | with_reducible rfl)) | (simp; done) | (simp; omega)) ?_)
   | (refine c_false rfl (by first | (simp only [Bool.not_eq_false', decide_eq_true_eq]; omega) | (with_reducible assumption) | (rw [decide_eq_false] <;> (first | omega | with_reducible rfl)) | (rw [decide_eq_true] <;> (first | omega | with_reducible rfl)) | (simp; done) | (simp; omega)) ?_)
   | refine c_cond rfl (fun hc => ?_) (fun hc => ?_)
   | refine c_condb rfl (fun hc => ?_) (fun hc => ?_)))
   | refine x_then ?_
   | refine x_then_ret ?_
   | refine x_then_exit ?_
   | refine x_block _ ?_
   | refine x_block_ret _ ?_
   | refine x_block_exit _ ?_
   | refine x_block_past (by decide) ?_
   | refine z_tailm ?_)
   | (refine z_isg0 ?_; first
   | refine z_skipu (by decide) rfl rfl ?_
   | (refine z_want0 rfl rfl (by first | with_reducible rfl | with_reducible assumption | ((with_reducible refine decide_eq_false ?_); first | with_reducible assumption | omega)) ?_)
   | (refine z_skip0 (by decide) rfl rfl (by first | with_reducible rfl | with_reducible assumption | ((with_reducible refine decide_eq_true ?_); first | with_reducible rfl | with_reducible assumption | omega)) ?_)
   | (refine z_want0 rfl rfl (by first | (simp only [Bool.not_eq_false', decide_eq_true_eq]; omega) | (with_reducible assumption) | (rw [decide_eq_false] <;> (first | omega | with_reducible rfl)) | (rw [decide_eq_true] <;> (first | omega | with_reducible rfl)) | (simp; done) | (simp; omega)) ?_)
   | (refine z_skip0 (by decide) rfl rfl (by first | (simp only [Bool.not_eq_true', decide_eq_false_iff_not]; omega) | (with_reducible assumption) | (rw [decide_eq_false] <;> (first | omega | with_reducible rfl)) | (rw [decide_eq_true] <;> (first | omega | with_reducible rfl)) | (simp; done) | (simp; omega)) ?_)
   | refine z_guard0 (by decide) rfl rfl (fun hc => ?_) (fun hc => ?_)
   | refine z_guardb (by decide) rfl rfl (fun hc => ?_) (fun hc => ?_))
   | (refine z_isnil ?_; first
   | refine z_list ?_
   | refine z_mixed ?_
   | refine z_mono0 ?_
   | refine z_mono1 (by decide) fun g => ?_
   | refine z_mono2 (by decide) (by decide) fun g g' => ?_
   | refine z_mixedx ?_
   | refine z_quiet ?_)
   | (refine z_isop ?_; first
   | refine o_boxa rfl rfl (by decide) fun g => ?_
   | refine o_alloca (e := 80) (vs := tb 0 0) rfl (by kernel_rfl) (by decide) fun g => ?_
   | refine o_alloca (e := 83) (vs := op3 0 0 0) rfl (by kernel_rfl) (by decide) fun g => ?_
   | refine o_build0 (t := 83) (v := .agg (op3 0 0 0).toArray) (fun _ => by kernel_rfl) (by decide) ?_
   | refine o_build0 (t := 80) (v := .agg (tb 0 0).toArray) (fun _ => by kernel_rfl) (by decide) ?_
   | (refine z_isbin ?_; first
   | refine o_eqa cmp80 rfl rfl (tb_typed _ _) (tb_typed _ _) (by decide) ?_
   | (refine z_isb .sub ?_; first
   | refine o_sub rfl rfl (by omega) (by omega) (by decide) ?_
   | refine o_subw rfl rfl (by decide) ?_)
   | (refine z_isb .eql ?_; first
   | refine o_eq rfl rfl (by decide) ?_
   | refine o_beq tabOk rfl rfl rfl (by decide) ?_
   | refine o_peq tabOk rfl rfl (by decide) ?_)
   | (refine z_isb .lss ?_; first
   | refine o_lt rfl rfl (by decide) ?_)
   | (refine z_isb .geq ?_; first
   | refine o_ge rfl rfl (by decide) ?_))
   | (refine z_isload ?_; first
   | (refine z_ld1 tabOk rfl rfl ?_; first
   | refine o_loadm tabOk rfl rfl rfl (by repeat' (first | exact List.mem_cons_self | apply List.mem_cons_of_mem)) (by first | exact tb_0 _ _ | exact tb_1 _ _ | exact op_0 _ _ _ | exact op_1 _ _ _ | exact op_2 _ _ _ | exact fl_r _ _ _ _ | exact fl_a _ _ _ _ | rfl) (by decide) ?_
   | refine o_loads tabOk (by first | assumption | exact Rds.cons _ (by assumption) | exact Rds.cons _ (Rds.cons _ (by assumption)) | exact own_rds 0 rfl | exact own_rds 1 rfl | exact own_rds 2 rfl) rfl rfl rfl (by first | exact tb_0 _ _ | exact tb_1 _ _ | exact op_0 _ _ _ | exact op_1 _ _ _ | exact op_2 _ _ _ | exact fl_r _ _ _ _ | exact fl_a _ _ _ _ | rfl) (by decide) ?_)
   | (refine z_ldw tabOk rfl rfl ?_; first
   | (refine o_loadwm tabOk rfl rfl rfl (by repeat' (first | exact List.mem_cons_self | apply List.mem_cons_of_mem)) (by first | exact tb_len _ _ | exact op_len _ _ _ | exact fl_len _ _ _ _ | (simp only [tb_len, op_len, fl_len]; done) | rfl) (by decide) ?_)))
   | (refine z_ispick ?_; first
   | (refine o_pick1 rfl (by first | with_reducible rfl | with_reducible assumption | ((with_reducible refine decide_eq_true ?_); first | with_reducible rfl | with_reducible assumption | omega)) rfl (by decide) ?_)
   | (refine o_pick0 rfl (by first | with_reducible rfl | with_reducible assumption | ((with_reducible refine decide_eq_false ?_); first | with_reducible assumption | omega)) rfl (by decide) ?_)
   | (refine o_pick1 rfl (by first | (simp only [Bool.not_eq_true', decide_eq_false_iff_not]; omega) | (with_reducible assumption) | (rw [decide_eq_false] <;> (first | omega | with_reducible rfl)) | (rw [decide_eq_true] <;> (first | omega | with_reducible rfl)) | (simp; done) | (simp; omega)) rfl (by decide) ?_)
   | (refine o_pick0 rfl (by first | (simp only [Bool.not_eq_false', decide_eq_true_eq]; omega) | (with_reducible assumption) | (rw [decide_eq_false] <;> (first | omega | with_reducible rfl)) | (rw [decide_eq_true] <;> (first | omega | with_reducible rfl)) | (simp; done) | (simp; omega)) rfl (by decide) ?_))
   | (refine z_isix ?_; first
   | refine o_index0 tabOk rfl rfl rfl rfl (by omega) (by omega) (by decide) ?_
   | refine o_index1 tabOk rfl rfl rfl rfl (by omega) (by omega) (by decide) ?_
   | refine o_indexsk1 tabOk rfl rfl rfl rfl (by omega) (by omega) (by decide) ?_
   | refine o_indexsk tabOk rfl rfl rfl rfl (by omega) (by omega) (by decide) ?_
   | refine o_indexs1 tabOk (by first | assumption) rfl rfl rfl rfl (by omega) (by omega) (by decide) ?_)
   | refine o_move rfl (by decide) ?_
   | refine o_assign rfl (by decide) ?_
   | refine o_nil rfl (by decide) ?_
   | refine o_extract rfl rfl (by decide) ?_
   | refine o_not rfl (by decide) ?_
   | refine o_field0 tabOk rfl rfl rfl rfl rfl (by decide) ?_
   | refine o_field tabOk rfl rfl rfl rfl rfl (by decide) ?_
   | refine o_conv tabOk rfl rfl rfl (by decide) ?_))
theorem open_nil (a b c : Int) : Pf Try.prog 36 [.pointer none, .agg (tb 0 0).toArray, .agg (op3 a b c).toArray] (.tuple #[.agg (tb 0 0).toArray, .int .i64 0, .int .i64 20]) := by
  intro w hw
  refine f_enter Try.func36 rfl Try.ntmps36 rfl hw ?_
  repeat' (first
   | (refine s_is ?_; first
   | (refine s_isret ?_; first
   | exact f_r3 rfl (res_c tabOk rfl rfl rfl 0 rfl (tb_len _ _)) (res_t rfl) (res_t rfl) () trivial rfl (fun w h => h.none))
   | (refine s_isw ?_; first
   | refine c_seq ?_
   | refine c_block ?_
   | refine c_region ?_
   | refine c_mixed mixed (by kernel_rfl) ?_
   | refine c_skip ?_
   | refine c_ret ?_
   | refine c_exit ?_
   | (refine s_iscond ?_; first
   | (refine c_true rfl (by first | with_reducible rfl | with_reducible assumption | ((with_reducible refine decide_eq_true ?_); first | with_reducible rfl | with_reducible assumption | omega)) ?_)
   | (refine c_false rfl (by first | with_reducible rfl | with_reducible assumption | ((with_reducible refine decide_eq_false ?_); first | with_reducible assumption | omega)) ?_)
   | (refine c_true rfl (by first | (simp only [Bool.not_eq_true', decide_eq_false_iff_not]; omega) | (with_reducible assumption) | (rw [decide_eq_false] <;> (first | omega | with_reducible rfl)) | (rw [decide_eq_true] <;> (first | omega | with_reducible rfl)) | (simp; done) | (simp; omega)) ?_)
   | (refine c_false rfl (by first | (simp only [Bool.not_eq_false', decide_eq_true_eq]; omega) | (with_reducible assumption) | (rw [decide_eq_false] <;> (first | omega | with_reducible rfl)) | (rw [decide_eq_true] <;> (first | omega | with_reducible rfl)) | (simp; done) | (simp; omega)) ?_)
   | refine c_cond rfl (fun hc => ?_) (fun hc => ?_)
   | refine c_condb rfl (fun hc => ?_) (fun hc => ?_)))
   | refine x_then ?_
   | refine x_then_ret ?_
   | refine x_then_exit ?_
   | refine x_block _ ?_
   | refine x_block_ret _ ?_
   | refine x_block_exit _ ?_
   | refine x_block_past (by decide) ?_
   | refine z_tailm ?_)
   | (refine z_isg0 ?_; first
   | refine z_skipu (by decide) rfl rfl ?_
   | (refine z_want0 rfl rfl (by first | with_reducible rfl | with_reducible assumption | ((with_reducible refine decide_eq_false ?_); first | with_reducible assumption | omega)) ?_)
   | (refine z_skip0 (by decide) rfl rfl (by first | with_reducible rfl | with_reducible assumption | ((with_reducible refine decide_eq_true ?_); first | with_reducible rfl | with_reducible assumption | omega)) ?_)
   | (refine z_want0 rfl rfl (by first | (simp only [Bool.not_eq_false', decide_eq_true_eq]; omega) | (with_reducible assumption) | (rw [decide_eq_false] <;> (first | omega | with_reducible rfl)) | (rw [decide_eq_true] <;> (first | omega | with_reducible rfl)) | (simp; done) | (simp; omega)) ?_)
   | (refine z_skip0 (by decide) rfl rfl (by first | (simp only [Bool.not_eq_true', decide_eq_false_iff_not]; omega) | (with_reducible assumption) | (rw [decide_eq_false] <;> (first | omega | with_reducible rfl)) | (rw [decide_eq_true] <;> (first | omega | with_reducible rfl)) | (simp; done) | (simp; omega)) ?_)
   | refine z_guard0 (by decide) rfl rfl (fun hc => ?_) (fun hc => ?_)
   | refine z_guardb (by decide) rfl rfl (fun hc => ?_) (fun hc => ?_))
   | (refine z_isnil ?_; first
   | refine z_list ?_
   | refine z_mixed ?_
   | refine z_mono0 ?_
   | refine z_mono1 (by decide) fun g => ?_
   | refine z_mono2 (by decide) (by decide) fun g g' => ?_
   | refine z_mixedx ?_
   | refine z_quiet ?_)
   | (refine z_isop ?_; first
   | refine o_boxa rfl rfl (by decide) fun g => ?_
   | refine o_alloca (e := 80) (vs := tb 0 0) rfl (by kernel_rfl) (by decide) fun g => ?_
   | refine o_alloca (e := 83) (vs := op3 0 0 0) rfl (by kernel_rfl) (by decide) fun g => ?_
   | refine o_build0 (t := 83) (v := .agg (op3 0 0 0).toArray) (fun _ => by kernel_rfl) (by decide) ?_
   | refine o_build0 (t := 80) (v := .agg (tb 0 0).toArray) (fun _ => by kernel_rfl) (by decide) ?_
   | (refine z_isbin ?_; first
   | refine o_eqa cmp80 rfl rfl (tb_typed _ _) (tb_typed _ _) (by decide) ?_
   | (refine z_isb .add ?_; first
   | refine o_add rfl rfl (by omega) (by omega) (by decide) ?_
   | refine o_addw rfl rfl (by decide) ?_)
   | (refine z_isb .eql ?_; first
   | refine o_eq rfl rfl (by decide) ?_
   | refine o_beq tabOk rfl rfl rfl (by decide) ?_
   | refine o_peq tabOk rfl rfl (by decide) ?_)
   | (refine z_isb .lss ?_; first
   | refine o_lt rfl rfl (by decide) ?_)
   | (refine z_isb .gtr ?_; first
   | refine o_gt rfl rfl (by decide) ?_))
   | (refine z_isload ?_; first
   | (refine z_ld1 tabOk rfl rfl ?_; first
   | refine o_loadm tabOk rfl rfl rfl (by repeat' (first | exact List.mem_cons_self | apply List.mem_cons_of_mem)) (by first | exact tb_0 _ _ | exact tb_1 _ _ | exact op_0 _ _ _ | exact op_1 _ _ _ | exact op_2 _ _ _ | exact fl_r _ _ _ _ | exact fl_a _ _ _ _ | rfl) (by decide) ?_
   | refine o_loads tabOk (by first | assumption | exact Rds.cons _ (by assumption) | exact Rds.cons _ (Rds.cons _ (by assumption)) | exact own_rds 0 rfl | exact own_rds 1 rfl | exact own_rds 2 rfl) rfl rfl rfl (by first | exact tb_0 _ _ | exact tb_1 _ _ | exact op_0 _ _ _ | exact op_1 _ _ _ | exact op_2 _ _ _ | exact fl_r _ _ _ _ | exact fl_a _ _ _ _ | rfl) (by decide) ?_)
   | (refine z_ldw tabOk rfl rfl ?_; first
   | (refine o_loadwm tabOk rfl rfl rfl (by repeat' (first | exact List.mem_cons_self | apply List.mem_cons_of_mem)) (by first | exact tb_len _ _ | exact op_len _ _ _ | exact fl_len _ _ _ _ | (simp only [tb_len, op_len, fl_len]; done) | rfl) (by decide) ?_)))
   | (refine z_isstore ?_; first
   | (refine z_stw rfl ?_; first
   | ((refine z_sti 0 rfl rfl ?_; refine o_storeb0 rfl tabOk rfl rfl rfl (by first | exact tb_len _ _ | exact op_len _ _ _ | exact fl_len _ _ _ _ | (simp only [tb_len, op_len, fl_len]; done) | rfl) (by first | exact tb_one _ _ | exact op_one _ _ _ | exact fl_one _ _ _ _ | rfl) (by first | exact tb_len _ _ | exact op_len _ _ _ | exact fl_len _ _ _ _ | (simp only [tb_len, op_len, fl_len]; done) | rfl) ?_))
   | ((refine z_sti 1 rfl rfl ?_; refine o_storeb1 rfl tabOk rfl rfl rfl (by first | exact tb_len _ _ | exact op_len _ _ _ | exact fl_len _ _ _ _ | (simp only [tb_len, op_len, fl_len]; done) | rfl) (by first | exact tb_one _ _ | exact op_one _ _ _ | exact fl_one _ _ _ _ | rfl) (by first | exact tb_len _ _ | exact op_len _ _ _ | exact fl_len _ _ _ _ | (simp only [tb_len, op_len, fl_len]; done) | rfl) ?_))
   | ((refine z_sti 2 rfl rfl ?_; refine o_storeb2 rfl tabOk rfl rfl rfl (by first | exact tb_len _ _ | exact op_len _ _ _ | exact fl_len _ _ _ _ | (simp only [tb_len, op_len, fl_len]; done) | rfl) (by first | exact tb_one _ _ | exact op_one _ _ _ | exact fl_one _ _ _ _ | rfl) (by first | exact tb_len _ _ | exact op_len _ _ _ | exact fl_len _ _ _ _ | (simp only [tb_len, op_len, fl_len]; done) | rfl) ?_))
   | ((refine z_sti 3 rfl rfl ?_; refine o_storeb3 rfl tabOk rfl rfl rfl (by first | exact tb_len _ _ | exact op_len _ _ _ | exact fl_len _ _ _ _ | (simp only [tb_len, op_len, fl_len]; done) | rfl) (by first | exact tb_one _ _ | exact op_one _ _ _ | exact fl_one _ _ _ _ | rfl) (by first | exact tb_len _ _ | exact op_len _ _ _ | exact fl_len _ _ _ _ | (simp only [tb_len, op_len, fl_len]; done) | rfl) ?_))
   | ((refine z_sti 4 rfl rfl ?_; refine o_storeb4 rfl tabOk rfl rfl rfl (by first | exact tb_len _ _ | exact op_len _ _ _ | exact fl_len _ _ _ _ | (simp only [tb_len, op_len, fl_len]; done) | rfl) (by first | exact tb_one _ _ | exact op_one _ _ _ | exact fl_one _ _ _ _ | rfl) (by first | exact tb_len _ _ | exact op_len _ _ _ | exact fl_len _ _ _ _ | (simp only [tb_len, op_len, fl_len]; done) | rfl) ?_))
   | ((refine z_sti 5 rfl rfl ?_; refine o_storeb5 rfl tabOk rfl rfl rfl (by first | exact tb_len _ _ | exact op_len _ _ _ | exact fl_len _ _ _ _ | (simp only [tb_len, op_len, fl_len]; done) | rfl) (by first | exact tb_one _ _ | exact op_one _ _ _ | exact fl_one _ _ _ _ | rfl) (by first | exact tb_len _ _ | exact op_len _ _ _ | exact fl_len _ _ _ _ | (simp only [tb_len, op_len, fl_len]; done) | rfl) ?_))
   | ((refine z_sti 6 rfl rfl ?_; refine o_storeb6 rfl tabOk rfl rfl rfl (by first | exact tb_len _ _ | exact op_len _ _ _ | exact fl_len _ _ _ _ | (simp only [tb_len, op_len, fl_len]; done) | rfl) (by first | exact tb_one _ _ | exact op_one _ _ _ | exact fl_one _ _ _ _ | rfl) (by first | exact tb_len _ _ | exact op_len _ _ _ | exact fl_len _ _ _ _ | (simp only [tb_len, op_len, fl_len]; done) | rfl) ?_)))
   | (refine z_st1 rfl rfl ?_; first
   | refine o_store rfl tabOk rfl rfl rfl rfl rfl (by first | exact tb_0 _ _ | exact tb_1 _ _ | exact op_0 _ _ _ | exact op_1 _ _ _ | exact op_2 _ _ _ | exact fl_r _ _ _ _ | exact fl_a _ _ _ _ | rfl) (by first | rfl) ?_
   | ((refine z_sti 1 rfl rfl ?_; refine o_store1 rfl tabOk rfl rfl rfl rfl rfl (by first | exact tb_0 _ _ | exact tb_1 _ _ | exact op_0 _ _ _ | exact op_1 _ _ _ | exact op_2 _ _ _ | exact fl_r _ _ _ _ | exact fl_a _ _ _ _ | rfl) (by first | rfl) ?_))
   | ((refine z_sti 2 rfl rfl ?_; refine o_store2 rfl tabOk rfl rfl rfl rfl rfl (by first | exact tb_0 _ _ | exact tb_1 _ _ | exact op_0 _ _ _ | exact op_1 _ _ _ | exact op_2 _ _ _ | exact fl_r _ _ _ _ | exact fl_a _ _ _ _ | rfl) (by first | rfl) ?_))
   | ((refine z_sti 3 rfl rfl ?_; refine o_store3 rfl tabOk rfl rfl rfl rfl rfl (by first | exact tb_0 _ _ | exact tb_1 _ _ | exact op_0 _ _ _ | exact op_1 _ _ _ | exact op_2 _ _ _ | exact fl_r _ _ _ _ | exact fl_a _ _ _ _ | rfl) (by first | rfl) ?_))
   | ((refine z_sti 4 rfl rfl ?_; refine o_store4 rfl tabOk rfl rfl rfl rfl rfl (by first | exact tb_0 _ _ | exact tb_1 _ _ | exact op_0 _ _ _ | exact op_1 _ _ _ | exact op_2 _ _ _ | exact fl_r _ _ _ _ | exact fl_a _ _ _ _ | rfl) (by first | rfl) ?_))
   | ((refine z_sti 5 rfl rfl ?_; refine o_store5 rfl tabOk rfl rfl rfl rfl rfl (by first | exact tb_0 _ _ | exact tb_1 _ _ | exact op_0 _ _ _ | exact op_1 _ _ _ | exact op_2 _ _ _ | exact fl_r _ _ _ _ | exact fl_a _ _ _ _ | rfl) (by first | rfl) ?_))
   | ((refine z_sti 6 rfl rfl ?_; refine o_store6 rfl tabOk rfl rfl rfl rfl rfl (by first | exact tb_0 _ _ | exact tb_1 _ _ | exact op_0 _ _ _ | exact op_1 _ _ _ | exact op_2 _ _ _ | exact fl_r _ _ _ _ | exact fl_a _ _ _ _ | rfl) (by first | rfl) ?_))))
   | (refine z_isindex ?_; first
   | refine o_ixv tabOk rfl rfl rfl rfl rfl (by omega) (by omega) (by first | exact tb_0 _ _ | exact tb_1 _ _ | exact op_0 _ _ _ | exact op_1 _ _ _ | exact op_2 _ _ _ | exact fl_r _ _ _ _ | exact fl_a _ _ _ _ | rfl) (by decide) ?_)
   | (refine z_iscall ?_; first
   | ((refine z_iscallf 55 ?_; refine o_fn rfl Try.func55 rfl rfl rfl (free_n) (by decide) ?_))
   | ((refine z_iscallf 56 ?_; refine o_fn rfl Try.func56 rfl rfl rfl (at_nil _) (by decide) ?_)))
   | (refine z_ispick ?_; first
   | (refine o_pick1 rfl (by first | with_reducible rfl | with_reducible assumption | ((with_reducible refine decide_eq_true ?_); first | with_reducible rfl | with_reducible assumption | omega)) rfl (by decide) ?_)
   | (refine o_pick0 rfl (by first | with_reducible rfl | with_reducible assumption | ((with_reducible refine decide_eq_false ?_); first | with_reducible assumption | omega)) rfl (by decide) ?_)
   | (refine o_pick1 rfl (by first | (simp only [Bool.not_eq_true', decide_eq_false_iff_not]; omega) | (with_reducible assumption) | (rw [decide_eq_false] <;> (first | omega | with_reducible rfl)) | (rw [decide_eq_true] <;> (first | omega | with_reducible rfl)) | (simp; done) | (simp; omega)) rfl (by decide) ?_)
   | (refine o_pick0 rfl (by first | (simp only [Bool.not_eq_false', decide_eq_true_eq]; omega) | (with_reducible assumption) | (rw [decide_eq_false] <;> (first | omega | with_reducible rfl)) | (rw [decide_eq_true] <;> (first | omega | with_reducible rfl)) | (simp; done) | (simp; omega)) rfl (by decide) ?_))
   | (refine z_isix ?_; first
   | refine o_index0 tabOk rfl rfl rfl rfl (by omega) (by omega) (by decide) ?_
   | refine o_index1 tabOk rfl rfl rfl rfl (by omega) (by omega) (by decide) ?_
   | refine o_indexsk1 tabOk rfl rfl rfl rfl (by omega) (by omega) (by decide) ?_
   | refine o_indexsk tabOk rfl rfl rfl rfl (by omega) (by omega) (by decide) ?_
   | refine o_indexs1 tabOk (by first | assumption) rfl rfl rfl rfl (by omega) (by omega) (by decide) ?_)
   | refine o_move rfl (by decide) ?_
   | refine o_assign rfl (by decide) ?_
   | refine o_nil rfl (by decide) ?_
   | refine o_extract rfl rfl (by decide) ?_
   | refine o_not rfl (by decide) ?_
   | refine o_field0 tabOk rfl rfl rfl rfl rfl (by decide) ?_
   | refine o_field tabOk rfl rfl rfl rfl rfl (by decide) ?_
   | refine o_conv tabOk rfl rfl rfl (by decide) ?_))
theorem mine_n (a b c : Int) : Pf Try.prog 37 [.agg (op3 a b c).toArray] (.agg (op3 a b c).toArray) := by
  intro w hw
  refine f_enter Try.func37 rfl Try.ntmps37 rfl hw ?_
  repeat' (first
   | (refine s_is ?_; first
   | (refine s_isret ?_; first
   | exact p_r1 rfl (res_c tabOk rfl rfl rfl 0 rfl (op_len _ _ _)))
   | (refine s_isw ?_; first
   | refine c_seq ?_
   | refine c_block ?_
   | refine c_region ?_
   | refine c_mixed mixed (by kernel_rfl) ?_
   | refine c_skip ?_
   | refine c_ret ?_
   | refine c_exit ?_
   | (refine s_iscond ?_; first
   | (refine c_true rfl (by first | with_reducible rfl | with_reducible assumption | ((with_reducible refine decide_eq_true ?_); first | with_reducible rfl | with_reducible assumption | omega)) ?_)
   | (refine c_false rfl (by first | with_reducible rfl | with_reducible assumption | ((with_reducible refine decide_eq_false ?_); first | with_reducible assumption | omega)) ?_)
   | (refine c_true rfl (by first | (simp only [Bool.not_eq_true', decide_eq_false_iff_not]; omega) | (with_reducible assumption) | (rw [decide_eq_false] <;> (first | omega | with_reducible rfl)) | (rw [decide_eq_true] <;> (first | omega | with_reducible rfl)) | (simp; done) | (simp; omega)) ?_)
   | (refine c_false rfl (by first | (simp only [Bool.not_eq_false', decide_eq_true_eq]; omega) | (with_reducible assumption) | (rw [decide_eq_false] <;> (first | omega | with_reducible rfl)) | (rw [decide_eq_true] <;> (first | omega | with_reducible rfl)) | (simp; done) | (simp; omega)) ?_)
   | refine c_cond rfl (fun hc => ?_) (fun hc => ?_)
   | refine c_condb rfl (fun hc => ?_) (fun hc => ?_)))
   | refine x_then ?_
   | refine x_then_ret ?_
   | refine x_then_exit ?_
   | refine x_block _ ?_
   | refine x_block_ret _ ?_
   | refine x_block_exit _ ?_
   | refine x_block_past (by decide) ?_
   | refine z_tailm ?_)
   | (refine z_isnil ?_; first
   | refine z_list ?_
   | refine z_mixed ?_
   | refine z_mono0 ?_
   | refine z_mono1 (by decide) fun g => ?_
   | refine z_mono2 (by decide) (by decide) fun g g' => ?_
   | refine z_mixedx ?_
   | refine z_quiet ?_)
   | (refine z_isop ?_; first
   | refine o_build (t := 83) (v := .agg (op3 a b c).toArray) rfl (fun _ => by kernel_rfl) (by decide) ?_
   | refine o_boxa rfl rfl (by decide) fun g => ?_
   | refine o_alloca (e := 80) (vs := tb 0 0) rfl (by kernel_rfl) (by decide) fun g => ?_
   | refine o_alloca (e := 83) (vs := op3 0 0 0) rfl (by kernel_rfl) (by decide) fun g => ?_
   | refine o_build0 (t := 83) (v := .agg (op3 0 0 0).toArray) (fun _ => by kernel_rfl) (by decide) ?_
   | refine o_build0 (t := 80) (v := .agg (tb 0 0).toArray) (fun _ => by kernel_rfl) (by decide) ?_
   | (refine z_isbin ?_; first
   | refine o_eqa cmp80 rfl rfl (tb_typed _ _) (tb_typed _ _) (by decide) ?_)
   | (refine z_isload ?_; first
   | (refine z_ld1 tabOk rfl rfl ?_; first
   | refine o_loadm tabOk rfl rfl rfl (by repeat' (first | exact List.mem_cons_self | apply List.mem_cons_of_mem)) (by first | exact tb_0 _ _ | exact tb_1 _ _ | exact op_0 _ _ _ | exact op_1 _ _ _ | exact op_2 _ _ _ | exact fl_r _ _ _ _ | exact fl_a _ _ _ _ | rfl) (by decide) ?_
   | refine o_loads tabOk (by first | assumption | exact Rds.cons _ (by assumption) | exact Rds.cons _ (Rds.cons _ (by assumption)) | exact own_rds 0 rfl | exact own_rds 1 rfl | exact own_rds 2 rfl) rfl rfl rfl (by first | exact tb_0 _ _ | exact tb_1 _ _ | exact op_0 _ _ _ | exact op_1 _ _ _ | exact op_2 _ _ _ | exact fl_r _ _ _ _ | exact fl_a _ _ _ _ | rfl) (by decide) ?_)
   | (refine z_ldw tabOk rfl rfl ?_; first
   | (refine o_loadwm tabOk rfl rfl rfl (by repeat' (first | exact List.mem_cons_self | apply List.mem_cons_of_mem)) (by first | exact tb_len _ _ | exact op_len _ _ _ | exact fl_len _ _ _ _ | (simp only [tb_len, op_len, fl_len]; done) | rfl) (by decide) ?_)))
   | (refine z_isstore ?_; first
   | (refine z_stw rfl ?_; first
   | ((refine z_sti 0 rfl rfl ?_; refine o_storeb0 rfl tabOk rfl rfl rfl (by first | exact tb_len _ _ | exact op_len _ _ _ | exact fl_len _ _ _ _ | (simp only [tb_len, op_len, fl_len]; done) | rfl) (by first | exact tb_one _ _ | exact op_one _ _ _ | exact fl_one _ _ _ _ | rfl) (by first | exact tb_len _ _ | exact op_len _ _ _ | exact fl_len _ _ _ _ | (simp only [tb_len, op_len, fl_len]; done) | rfl) ?_))
   | ((refine z_sti 1 rfl rfl ?_; refine o_storeb1 rfl tabOk rfl rfl rfl (by first | exact tb_len _ _ | exact op_len _ _ _ | exact fl_len _ _ _ _ | (simp only [tb_len, op_len, fl_len]; done) | rfl) (by first | exact tb_one _ _ | exact op_one _ _ _ | exact fl_one _ _ _ _ | rfl) (by first | exact tb_len _ _ | exact op_len _ _ _ | exact fl_len _ _ _ _ | (simp only [tb_len, op_len, fl_len]; done) | rfl) ?_))
   | ((refine z_sti 2 rfl rfl ?_; refine o_storeb2 rfl tabOk rfl rfl rfl (by first | exact tb_len _ _ | exact op_len _ _ _ | exact fl_len _ _ _ _ | (simp only [tb_len, op_len, fl_len]; done) | rfl) (by first | exact tb_one _ _ | exact op_one _ _ _ | exact fl_one _ _ _ _ | rfl) (by first | exact tb_len _ _ | exact op_len _ _ _ | exact fl_len _ _ _ _ | (simp only [tb_len, op_len, fl_len]; done) | rfl) ?_))
   | ((refine z_sti 3 rfl rfl ?_; refine o_storeb3 rfl tabOk rfl rfl rfl (by first | exact tb_len _ _ | exact op_len _ _ _ | exact fl_len _ _ _ _ | (simp only [tb_len, op_len, fl_len]; done) | rfl) (by first | exact tb_one _ _ | exact op_one _ _ _ | exact fl_one _ _ _ _ | rfl) (by first | exact tb_len _ _ | exact op_len _ _ _ | exact fl_len _ _ _ _ | (simp only [tb_len, op_len, fl_len]; done) | rfl) ?_))
   | ((refine z_sti 4 rfl rfl ?_; refine o_storeb4 rfl tabOk rfl rfl rfl (by first | exact tb_len _ _ | exact op_len _ _ _ | exact fl_len _ _ _ _ | (simp only [tb_len, op_len, fl_len]; done) | rfl) (by first | exact tb_one _ _ | exact op_one _ _ _ | exact fl_one _ _ _ _ | rfl) (by first | exact tb_len _ _ | exact op_len _ _ _ | exact fl_len _ _ _ _ | (simp only [tb_len, op_len, fl_len]; done) | rfl) ?_))
   | ((refine z_sti 5 rfl rfl ?_; refine o_storeb5 rfl tabOk rfl rfl rfl (by first | exact tb_len _ _ | exact op_len _ _ _ | exact fl_len _ _ _ _ | (simp only [tb_len, op_len, fl_len]; done) | rfl) (by first | exact tb_one _ _ | exact op_one _ _ _ | exact fl_one _ _ _ _ | rfl) (by first | exact tb_len _ _ | exact op_len _ _ _ | exact fl_len _ _ _ _ | (simp only [tb_len, op_len, fl_len]; done) | rfl) ?_))
   | ((refine z_sti 6 rfl rfl ?_; refine o_storeb6 rfl tabOk rfl rfl rfl (by first | exact tb_len _ _ | exact op_len _ _ _ | exact fl_len _ _ _ _ | (simp only [tb_len, op_len, fl_len]; done) | rfl) (by first | exact tb_one _ _ | exact op_one _ _ _ | exact fl_one _ _ _ _ | rfl) (by first | exact tb_len _ _ | exact op_len _ _ _ | exact fl_len _ _ _ _ | (simp only [tb_len, op_len, fl_len]; done) | rfl) ?_)))
   | (refine z_st1 rfl rfl ?_; first
   | refine o_store rfl tabOk rfl rfl rfl rfl rfl (by first | exact tb_0 _ _ | exact tb_1 _ _ | exact op_0 _ _ _ | exact op_1 _ _ _ | exact op_2 _ _ _ | exact fl_r _ _ _ _ | exact fl_a _ _ _ _ | rfl) (by first | rfl) ?_
   | ((refine z_sti 1 rfl rfl ?_; refine o_store1 rfl tabOk rfl rfl rfl rfl rfl (by first | exact tb_0 _ _ | exact tb_1 _ _ | exact op_0 _ _ _ | exact op_1 _ _ _ | exact op_2 _ _ _ | exact fl_r _ _ _ _ | exact fl_a _ _ _ _ | rfl) (by first | rfl) ?_))
   | ((refine z_sti 2 rfl rfl ?_; refine o_store2 rfl tabOk rfl rfl rfl rfl rfl (by first | exact tb_0 _ _ | exact tb_1 _ _ | exact op_0 _ _ _ | exact op_1 _ _ _ | exact op_2 _ _ _ | exact fl_r _ _ _ _ | exact fl_a _ _ _ _ | rfl) (by first | rfl) ?_))
   | ((refine z_sti 3 rfl rfl ?_; refine o_store3 rfl tabOk rfl rfl rfl rfl rfl (by first | exact tb_0 _ _ | exact tb_1 _ _ | exact op_0 _ _ _ | exact op_1 _ _ _ | exact op_2 _ _ _ | exact fl_r _ _ _ _ | exact fl_a _ _ _ _ | rfl) (by first | rfl) ?_))
   | ((refine z_sti 4 rfl rfl ?_; refine o_store4 rfl tabOk rfl rfl rfl rfl rfl (by first | exact tb_0 _ _ | exact tb_1 _ _ | exact op_0 _ _ _ | exact op_1 _ _ _ | exact op_2 _ _ _ | exact fl_r _ _ _ _ | exact fl_a _ _ _ _ | rfl) (by first | rfl) ?_))
   | ((refine z_sti 5 rfl rfl ?_; refine o_store5 rfl tabOk rfl rfl rfl rfl rfl (by first | exact tb_0 _ _ | exact tb_1 _ _ | exact op_0 _ _ _ | exact op_1 _ _ _ | exact op_2 _ _ _ | exact fl_r _ _ _ _ | exact fl_a _ _ _ _ | rfl) (by first | rfl) ?_))
   | ((refine z_sti 6 rfl rfl ?_; refine o_store6 rfl tabOk rfl rfl rfl rfl rfl (by first | exact tb_0 _ _ | exact tb_1 _ _ | exact op_0 _ _ _ | exact op_1 _ _ _ | exact op_2 _ _ _ | exact fl_r _ _ _ _ | exact fl_a _ _ _ _ | rfl) (by first | rfl) ?_))))
   | (refine z_iscall ?_; first
   | ((refine z_iscallf 55 ?_; refine o_fn rfl Try.func55 rfl rfl rfl (free_n) (by decide) ?_))
   | ((refine z_iscallf 56 ?_; refine o_fn rfl Try.func56 rfl rfl rfl (at_nil _) (by decide) ?_)))
   | refine o_move rfl (by decide) ?_
   | refine o_assign rfl (by decide) ?_
   | refine o_nil rfl (by decide) ?_
   | refine o_extract rfl rfl (by decide) ?_
   | refine o_not rfl (by decide) ?_
   | refine o_field0 tabOk rfl rfl rfl rfl rfl (by decide) ?_
   | refine o_field tabOk rfl rfl rfl rfl rfl (by decide) ?_
   | refine o_conv tabOk rfl rfl rfl (by decide) ?_))
theorem dup_nil (i : Int) : Pf Try.prog 38 [.pointer none, .agg (tb 0 0).toArray, .int .i64 i] (.tuple #[.agg (tb 0 0).toArray, .int .i64 0, .int .i64 10]) := by
  intro w hw
  refine f_enter Try.func38 rfl Try.ntmps38 rfl hw ?_
  repeat' (first
   | (refine s_is ?_; first
   | (refine s_isret ?_; first
   | exact f_r3 rfl (res_c tabOk rfl rfl rfl 0 rfl (tb_len _ _)) (res_t rfl) (res_t rfl) () trivial rfl (fun w h => h.none))
   | (refine s_isw ?_; first
   | refine c_seq ?_
   | refine c_block ?_
   | refine c_region ?_
   | refine c_mixed mixed (by kernel_rfl) ?_
   | refine c_skip ?_
   | refine c_ret ?_
   | refine c_exit ?_
   | (refine s_iscond ?_; first
   | (refine c_true rfl (by first | with_reducible rfl | with_reducible assumption | ((with_reducible refine decide_eq_true ?_); first | with_reducible rfl | with_reducible assumption | omega)) ?_)
   | (refine c_false rfl (by first | with_reducible rfl | with_reducible assumption | ((with_reducible refine decide_eq_false ?_); first | with_reducible assumption | omega)) ?_)
   | (refine c_true rfl (by first | (simp only [Bool.not_eq_true', decide_eq_false_iff_not]; omega) | (with_reducible assumption) | (rw [decide_eq_false] <;> (first | omega | with_reducible rfl)) | (rw [decide_eq_true] <;> (first | omega | with_reducible rfl)) | (simp; done) | (simp; omega)) ?_)
   | (refine c_false rfl (by first | (simp only [Bool.not_eq_false', decide_eq_true_eq]; omega) | (with_reducible assumption) | (rw [decide_eq_false] <;> (first | omega | with_reducible rfl)) | (rw [decide_eq_true] <;> (first | omega | with_reducible rfl)) | (simp; done) | (simp; omega)) ?_)
   | refine c_cond rfl (fun hc => ?_) (fun hc => ?_)
   | refine c_condb rfl (fun hc => ?_) (fun hc => ?_)))
   | refine x_then ?_
   | refine x_then_ret ?_
   | refine x_then_exit ?_
   | refine x_block _ ?_
   | refine x_block_ret _ ?_
   | refine x_block_exit _ ?_
   | refine x_block_past (by decide) ?_
   | refine z_tailm ?_)
   | (refine z_isnil ?_; first
   | refine z_list ?_
   | refine z_mixed ?_
   | refine z_mono0 ?_
   | refine z_mono1 (by decide) fun g => ?_
   | refine z_mono2 (by decide) (by decide) fun g g' => ?_
   | refine z_mixedx ?_
   | refine z_quiet ?_)
   | (refine z_isop ?_; first
   | refine o_boxa rfl rfl (by decide) fun g => ?_
   | refine o_alloca (e := 80) (vs := tb 0 0) rfl (by kernel_rfl) (by decide) fun g => ?_
   | refine o_alloca (e := 83) (vs := op3 0 0 0) rfl (by kernel_rfl) (by decide) fun g => ?_
   | refine o_build0 (t := 83) (v := .agg (op3 0 0 0).toArray) (fun _ => by kernel_rfl) (by decide) ?_
   | refine o_build0 (t := 80) (v := .agg (tb 0 0).toArray) (fun _ => by kernel_rfl) (by decide) ?_
   | (refine z_isbin ?_; first
   | refine o_eqa cmp80 rfl rfl (tb_typed _ _) (tb_typed _ _) (by decide) ?_
   | (refine z_isb .add ?_; first
   | refine o_add rfl rfl (by omega) (by omega) (by decide) ?_
   | refine o_addw rfl rfl (by decide) ?_))
   | (refine z_isload ?_; first
   | (refine z_ld1 tabOk rfl rfl ?_; first
   | refine o_loadm tabOk rfl rfl rfl (by repeat' (first | exact List.mem_cons_self | apply List.mem_cons_of_mem)) (by first | exact tb_0 _ _ | exact tb_1 _ _ | exact op_0 _ _ _ | exact op_1 _ _ _ | exact op_2 _ _ _ | exact fl_r _ _ _ _ | exact fl_a _ _ _ _ | rfl) (by decide) ?_
   | refine o_loads tabOk (by first | assumption | exact Rds.cons _ (by assumption) | exact Rds.cons _ (Rds.cons _ (by assumption)) | exact own_rds 0 rfl | exact own_rds 1 rfl | exact own_rds 2 rfl) rfl rfl rfl (by first | exact tb_0 _ _ | exact tb_1 _ _ | exact op_0 _ _ _ | exact op_1 _ _ _ | exact op_2 _ _ _ | exact fl_r _ _ _ _ | exact fl_a _ _ _ _ | rfl) (by decide) ?_)
   | (refine z_ldw tabOk rfl rfl ?_; first
   | (refine o_loadwm tabOk rfl rfl rfl (by repeat' (first | exact List.mem_cons_self | apply List.mem_cons_of_mem)) (by first | exact tb_len _ _ | exact op_len _ _ _ | exact fl_len _ _ _ _ | (simp only [tb_len, op_len, fl_len]; done) | rfl) (by decide) ?_)))
   | (refine z_isstore ?_; first
   | (refine z_stw rfl ?_; first
   | ((refine z_sti 0 rfl rfl ?_; refine o_storeb0 rfl tabOk rfl rfl rfl (by first | exact tb_len _ _ | exact op_len _ _ _ | exact fl_len _ _ _ _ | (simp only [tb_len, op_len, fl_len]; done) | rfl) (by first | exact tb_one _ _ | exact op_one _ _ _ | exact fl_one _ _ _ _ | rfl) (by first | exact tb_len _ _ | exact op_len _ _ _ | exact fl_len _ _ _ _ | (simp only [tb_len, op_len, fl_len]; done) | rfl) ?_))
   | ((refine z_sti 1 rfl rfl ?_; refine o_storeb1 rfl tabOk rfl rfl rfl (by first | exact tb_len _ _ | exact op_len _ _ _ | exact fl_len _ _ _ _ | (simp only [tb_len, op_len, fl_len]; done) | rfl) (by first | exact tb_one _ _ | exact op_one _ _ _ | exact fl_one _ _ _ _ | rfl) (by first | exact tb_len _ _ | exact op_len _ _ _ | exact fl_len _ _ _ _ | (simp only [tb_len, op_len, fl_len]; done) | rfl) ?_))
   | ((refine z_sti 2 rfl rfl ?_; refine o_storeb2 rfl tabOk rfl rfl rfl (by first | exact tb_len _ _ | exact op_len _ _ _ | exact fl_len _ _ _ _ | (simp only [tb_len, op_len, fl_len]; done) | rfl) (by first | exact tb_one _ _ | exact op_one _ _ _ | exact fl_one _ _ _ _ | rfl) (by first | exact tb_len _ _ | exact op_len _ _ _ | exact fl_len _ _ _ _ | (simp only [tb_len, op_len, fl_len]; done) | rfl) ?_))
   | ((refine z_sti 3 rfl rfl ?_; refine o_storeb3 rfl tabOk rfl rfl rfl (by first | exact tb_len _ _ | exact op_len _ _ _ | exact fl_len _ _ _ _ | (simp only [tb_len, op_len, fl_len]; done) | rfl) (by first | exact tb_one _ _ | exact op_one _ _ _ | exact fl_one _ _ _ _ | rfl) (by first | exact tb_len _ _ | exact op_len _ _ _ | exact fl_len _ _ _ _ | (simp only [tb_len, op_len, fl_len]; done) | rfl) ?_))
   | ((refine z_sti 4 rfl rfl ?_; refine o_storeb4 rfl tabOk rfl rfl rfl (by first | exact tb_len _ _ | exact op_len _ _ _ | exact fl_len _ _ _ _ | (simp only [tb_len, op_len, fl_len]; done) | rfl) (by first | exact tb_one _ _ | exact op_one _ _ _ | exact fl_one _ _ _ _ | rfl) (by first | exact tb_len _ _ | exact op_len _ _ _ | exact fl_len _ _ _ _ | (simp only [tb_len, op_len, fl_len]; done) | rfl) ?_))
   | ((refine z_sti 5 rfl rfl ?_; refine o_storeb5 rfl tabOk rfl rfl rfl (by first | exact tb_len _ _ | exact op_len _ _ _ | exact fl_len _ _ _ _ | (simp only [tb_len, op_len, fl_len]; done) | rfl) (by first | exact tb_one _ _ | exact op_one _ _ _ | exact fl_one _ _ _ _ | rfl) (by first | exact tb_len _ _ | exact op_len _ _ _ | exact fl_len _ _ _ _ | (simp only [tb_len, op_len, fl_len]; done) | rfl) ?_))
   | ((refine z_sti 6 rfl rfl ?_; refine o_storeb6 rfl tabOk rfl rfl rfl (by first | exact tb_len _ _ | exact op_len _ _ _ | exact fl_len _ _ _ _ | (simp only [tb_len, op_len, fl_len]; done) | rfl) (by first | exact tb_one _ _ | exact op_one _ _ _ | exact fl_one _ _ _ _ | rfl) (by first | exact tb_len _ _ | exact op_len _ _ _ | exact fl_len _ _ _ _ | (simp only [tb_len, op_len, fl_len]; done) | rfl) ?_)))
   | (refine z_st1 rfl rfl ?_; first
   | refine o_store rfl tabOk rfl rfl rfl rfl rfl (by first | exact tb_0 _ _ | exact tb_1 _ _ | exact op_0 _ _ _ | exact op_1 _ _ _ | exact op_2 _ _ _ | exact fl_r _ _ _ _ | exact fl_a _ _ _ _ | rfl) (by first | rfl) ?_
   | ((refine z_sti 1 rfl rfl ?_; refine o_store1 rfl tabOk rfl rfl rfl rfl rfl (by first | exact tb_0 _ _ | exact tb_1 _ _ | exact op_0 _ _ _ | exact op_1 _ _ _ | exact op_2 _ _ _ | exact fl_r _ _ _ _ | exact fl_a _ _ _ _ | rfl) (by first | rfl) ?_))
   | ((refine z_sti 2 rfl rfl ?_; refine o_store2 rfl tabOk rfl rfl rfl rfl rfl (by first | exact tb_0 _ _ | exact tb_1 _ _ | exact op_0 _ _ _ | exact op_1 _ _ _ | exact op_2 _ _ _ | exact fl_r _ _ _ _ | exact fl_a _ _ _ _ | rfl) (by first | rfl) ?_))
   | ((refine z_sti 3 rfl rfl ?_; refine o_store3 rfl tabOk rfl rfl rfl rfl rfl (by first | exact tb_0 _ _ | exact tb_1 _ _ | exact op_0 _ _ _ | exact op_1 _ _ _ | exact op_2 _ _ _ | exact fl_r _ _ _ _ | exact fl_a _ _ _ _ | rfl) (by first | rfl) ?_))
   | ((refine z_sti 4 rfl rfl ?_; refine o_store4 rfl tabOk rfl rfl rfl rfl rfl (by first | exact tb_0 _ _ | exact tb_1 _ _ | exact op_0 _ _ _ | exact op_1 _ _ _ | exact op_2 _ _ _ | exact fl_r _ _ _ _ | exact fl_a _ _ _ _ | rfl) (by first | rfl) ?_))
   | ((refine z_sti 5 rfl rfl ?_; refine o_store5 rfl tabOk rfl rfl rfl rfl rfl (by first | exact tb_0 _ _ | exact tb_1 _ _ | exact op_0 _ _ _ | exact op_1 _ _ _ | exact op_2 _ _ _ | exact fl_r _ _ _ _ | exact fl_a _ _ _ _ | rfl) (by first | rfl) ?_))
   | ((refine z_sti 6 rfl rfl ?_; refine o_store6 rfl tabOk rfl rfl rfl rfl rfl (by first | exact tb_0 _ _ | exact tb_1 _ _ | exact op_0 _ _ _ | exact op_1 _ _ _ | exact op_2 _ _ _ | exact fl_r _ _ _ _ | exact fl_a _ _ _ _ | rfl) (by first | rfl) ?_))))
   | (refine z_iscall ?_; first
   | ((refine z_iscallf 55 ?_; refine o_fn rfl Try.func55 rfl rfl rfl (free_n) (by decide) ?_))
   | ((refine z_iscallf 56 ?_; refine o_fn rfl Try.func56 rfl rfl rfl (at_nil _) (by decide) ?_)))
   | (refine z_isix ?_; first
   | refine o_index0 tabOk rfl rfl rfl rfl (by omega) (by omega) (by decide) ?_
   | refine o_index1 tabOk rfl rfl rfl rfl (by omega) (by omega) (by decide) ?_
   | refine o_indexsk1 tabOk rfl rfl rfl rfl (by omega) (by omega) (by decide) ?_
   | refine o_indexsk tabOk rfl rfl rfl rfl (by omega) (by omega) (by decide) ?_
   | refine o_indexs1 tabOk (by first | assumption) rfl rfl rfl rfl (by omega) (by omega) (by decide) ?_)
   | refine o_move rfl (by decide) ?_
   | refine o_assign rfl (by decide) ?_
   | refine o_nil rfl (by decide) ?_
   | refine o_extract rfl rfl (by decide) ?_
   | refine o_not rfl (by decide) ?_
   | refine o_field0 tabOk rfl rfl rfl rfl rfl (by decide) ?_
   | refine o_field tabOk rfl rfl rfl rfl rfl (by decide) ?_
   | refine o_conv tabOk rfl rfl rfl (by decide) ?_))
theorem get_nil (i : Int) : Pf Try.prog 40 [.pointer none, .agg (tb 0 0).toArray, .int .i64 i] (.tuple #[.agg (op3 0 0 0).toArray, .bool false]) := by
  intro w hw
  refine f_enter Try.func40 rfl Try.ntmps40 rfl hw ?_
  repeat' (first
   | (refine s_is ?_; first
   | (refine s_isret ?_; first
   | exact f_r2 rfl (res_c tabOk rfl rfl rfl 0 rfl (op_len _ _ _)) (res_t rfl) () trivial rfl (fun w h => h.none))
   | (refine s_isw ?_; first
   | refine c_seq ?_
   | refine c_block ?_
   | refine c_region ?_
   | refine c_mixed mixed (by kernel_rfl) ?_
   | refine c_skip ?_
   | refine c_ret ?_
   | refine c_exit ?_
   | (refine s_iscond ?_; first
   | (refine c_true rfl (by first | with_reducible rfl | with_reducible assumption | ((with_reducible refine decide_eq_true ?_); first | with_reducible rfl | with_reducible assumption | omega)) ?_)
   | (refine c_false rfl (by first | with_reducible rfl | with_reducible assumption | ((with_reducible refine decide_eq_false ?_); first | with_reducible assumption | omega)) ?_)
   | (refine c_true rfl (by first | (simp only [Bool.not_eq_true', decide_eq_false_iff_not]; omega) | (with_reducible assumption) | (rw [decide_eq_false] <;> (first | omega | with_reducible rfl)) | (rw [decide_eq_true] <;> (first | omega | with_reducible rfl)) | (simp; done) | (simp; omega)) ?_)
   | (refine c_false rfl (by first | (simp only [Bool.not_eq_false', decide_eq_true_eq]; omega) | (with_reducible assumption) | (rw [decide_eq_false] <;> (first | omega | with_reducible rfl)) | (rw [decide_eq_true] <;> (first | omega | with_reducible rfl)) | (simp; done) | (simp; omega)) ?_)
   | refine c_cond rfl (fun hc => ?_) (fun hc => ?_)
   | refine c_condb rfl (fun hc => ?_) (fun hc => ?_)))
   | refine x_then ?_
   | refine x_then_ret ?_
   | refine x_then_exit ?_
   | refine x_block _ ?_
   | refine x_block_ret _ ?_
   | refine x_block_exit _ ?_
   | refine x_block_past (by decide) ?_
   | refine z_tailm ?_)
   | (refine z_isnil ?_; first
   | refine z_list ?_
   | refine z_mixed ?_
   | refine z_mono0 ?_
   | refine z_mono1 (by decide) fun g => ?_
   | refine z_mono2 (by decide) (by decide) fun g g' => ?_
   | refine z_mixedx ?_
   | refine z_quiet ?_)
   | (refine z_isop ?_; first
   | refine o_boxa rfl rfl (by decide) fun g => ?_
   | refine o_alloca (e := 80) (vs := tb 0 0) rfl (by kernel_rfl) (by decide) fun g => ?_
   | refine o_alloca (e := 83) (vs := op3 0 0 0) rfl (by kernel_rfl) (by decide) fun g => ?_
   | refine o_build0 (t := 83) (v := .agg (op3 0 0 0).toArray) (fun _ => by kernel_rfl) (by decide) ?_
   | refine o_build0 (t := 80) (v := .agg (tb 0 0).toArray) (fun _ => by kernel_rfl) (by decide) ?_
   | (refine z_isbin ?_; first
   | refine o_eqa cmp80 rfl rfl (tb_typed _ _) (tb_typed _ _) (by decide) ?_)
   | (refine z_isload ?_; first
   | (refine z_ld1 tabOk rfl rfl ?_; first
   | refine o_loadm tabOk rfl rfl rfl (by repeat' (first | exact List.mem_cons_self | apply List.mem_cons_of_mem)) (by first | exact tb_0 _ _ | exact tb_1 _ _ | exact op_0 _ _ _ | exact op_1 _ _ _ | exact op_2 _ _ _ | exact fl_r _ _ _ _ | exact fl_a _ _ _ _ | rfl) (by decide) ?_
   | refine o_loads tabOk (by first | assumption | exact Rds.cons _ (by assumption) | exact Rds.cons _ (Rds.cons _ (by assumption)) | exact own_rds 0 rfl | exact own_rds 1 rfl | exact own_rds 2 rfl) rfl rfl rfl (by first | exact tb_0 _ _ | exact tb_1 _ _ | exact op_0 _ _ _ | exact op_1 _ _ _ | exact op_2 _ _ _ | exact fl_r _ _ _ _ | exact fl_a _ _ _ _ | rfl) (by decide) ?_)
   | (refine z_ldw tabOk rfl rfl ?_; first
   | (refine o_loadwm tabOk rfl rfl rfl (by repeat' (first | exact List.mem_cons_self | apply List.mem_cons_of_mem)) (by first | exact tb_len _ _ | exact op_len _ _ _ | exact fl_len _ _ _ _ | (simp only [tb_len, op_len, fl_len]; done) | rfl) (by decide) ?_)))
   | (refine z_isstore ?_; first
   | (refine z_stw rfl ?_; first
   | ((refine z_sti 0 rfl rfl ?_; refine o_storeb0 rfl tabOk rfl rfl rfl (by first | exact tb_len _ _ | exact op_len _ _ _ | exact fl_len _ _ _ _ | (simp only [tb_len, op_len, fl_len]; done) | rfl) (by first | exact tb_one _ _ | exact op_one _ _ _ | exact fl_one _ _ _ _ | rfl) (by first | exact tb_len _ _ | exact op_len _ _ _ | exact fl_len _ _ _ _ | (simp only [tb_len, op_len, fl_len]; done) | rfl) ?_))
   | ((refine z_sti 1 rfl rfl ?_; refine o_storeb1 rfl tabOk rfl rfl rfl (by first | exact tb_len _ _ | exact op_len _ _ _ | exact fl_len _ _ _ _ | (simp only [tb_len, op_len, fl_len]; done) | rfl) (by first | exact tb_one _ _ | exact op_one _ _ _ | exact fl_one _ _ _ _ | rfl) (by first | exact tb_len _ _ | exact op_len _ _ _ | exact fl_len _ _ _ _ | (simp only [tb_len, op_len, fl_len]; done) | rfl) ?_))
   | ((refine z_sti 2 rfl rfl ?_; refine o_storeb2 rfl tabOk rfl rfl rfl (by first | exact tb_len _ _ | exact op_len _ _ _ | exact fl_len _ _ _ _ | (simp only [tb_len, op_len, fl_len]; done) | rfl) (by first | exact tb_one _ _ | exact op_one _ _ _ | exact fl_one _ _ _ _ | rfl) (by first | exact tb_len _ _ | exact op_len _ _ _ | exact fl_len _ _ _ _ | (simp only [tb_len, op_len, fl_len]; done) | rfl) ?_))
   | ((refine z_sti 3 rfl rfl ?_; refine o_storeb3 rfl tabOk rfl rfl rfl (by first | exact tb_len _ _ | exact op_len _ _ _ | exact fl_len _ _ _ _ | (simp only [tb_len, op_len, fl_len]; done) | rfl) (by first | exact tb_one _ _ | exact op_one _ _ _ | exact fl_one _ _ _ _ | rfl) (by first | exact tb_len _ _ | exact op_len _ _ _ | exact fl_len _ _ _ _ | (simp only [tb_len, op_len, fl_len]; done) | rfl) ?_))
   | ((refine z_sti 4 rfl rfl ?_; refine o_storeb4 rfl tabOk rfl rfl rfl (by first | exact tb_len _ _ | exact op_len _ _ _ | exact fl_len _ _ _ _ | (simp only [tb_len, op_len, fl_len]; done) | rfl) (by first | exact tb_one _ _ | exact op_one _ _ _ | exact fl_one _ _ _ _ | rfl) (by first | exact tb_len _ _ | exact op_len _ _ _ | exact fl_len _ _ _ _ | (simp only [tb_len, op_len, fl_len]; done) | rfl) ?_))
   | ((refine z_sti 5 rfl rfl ?_; refine o_storeb5 rfl tabOk rfl rfl rfl (by first | exact tb_len _ _ | exact op_len _ _ _ | exact fl_len _ _ _ _ | (simp only [tb_len, op_len, fl_len]; done) | rfl) (by first | exact tb_one _ _ | exact op_one _ _ _ | exact fl_one _ _ _ _ | rfl) (by first | exact tb_len _ _ | exact op_len _ _ _ | exact fl_len _ _ _ _ | (simp only [tb_len, op_len, fl_len]; done) | rfl) ?_))
   | ((refine z_sti 6 rfl rfl ?_; refine o_storeb6 rfl tabOk rfl rfl rfl (by first | exact tb_len _ _ | exact op_len _ _ _ | exact fl_len _ _ _ _ | (simp only [tb_len, op_len, fl_len]; done) | rfl) (by first | exact tb_one _ _ | exact op_one _ _ _ | exact fl_one _ _ _ _ | rfl) (by first | exact tb_len _ _ | exact op_len _ _ _ | exact fl_len _ _ _ _ | (simp only [tb_len, op_len, fl_len]; done) | rfl) ?_)))
   | (refine z_st1 rfl rfl ?_; first
   | refine o_store rfl tabOk rfl rfl rfl rfl rfl (by first | exact tb_0 _ _ | exact tb_1 _ _ | exact op_0 _ _ _ | exact op_1 _ _ _ | exact op_2 _ _ _ | exact fl_r _ _ _ _ | exact fl_a _ _ _ _ | rfl) (by first | rfl) ?_
   | ((refine z_sti 1 rfl rfl ?_; refine o_store1 rfl tabOk rfl rfl rfl rfl rfl (by first | exact tb_0 _ _ | exact tb_1 _ _ | exact op_0 _ _ _ | exact op_1 _ _ _ | exact op_2 _ _ _ | exact fl_r _ _ _ _ | exact fl_a _ _ _ _ | rfl) (by first | rfl) ?_))
   | ((refine z_sti 2 rfl rfl ?_; refine o_store2 rfl tabOk rfl rfl rfl rfl rfl (by first | exact tb_0 _ _ | exact tb_1 _ _ | exact op_0 _ _ _ | exact op_1 _ _ _ | exact op_2 _ _ _ | exact fl_r _ _ _ _ | exact fl_a _ _ _ _ | rfl) (by first | rfl) ?_))
   | ((refine z_sti 3 rfl rfl ?_; refine o_store3 rfl tabOk rfl rfl rfl rfl rfl (by first | exact tb_0 _ _ | exact tb_1 _ _ | exact op_0 _ _ _ | exact op_1 _ _ _ | exact op_2 _ _ _ | exact fl_r _ _ _ _ | exact fl_a _ _ _ _ | rfl) (by first | rfl) ?_))
   | ((refine z_sti 4 rfl rfl ?_; refine o_store4 rfl tabOk rfl rfl rfl rfl rfl (by first | exact tb_0 _ _ | exact tb_1 _ _ | exact op_0 _ _ _ | exact op_1 _ _ _ | exact op_2 _ _ _ | exact fl_r _ _ _ _ | exact fl_a _ _ _ _ | rfl) (by first | rfl) ?_))
   | ((refine z_sti 5 rfl rfl ?_; refine o_store5 rfl tabOk rfl rfl rfl rfl rfl (by first | exact tb_0 _ _ | exact tb_1 _ _ | exact op_0 _ _ _ | exact op_1 _ _ _ | exact op_2 _ _ _ | exact fl_r _ _ _ _ | exact fl_a _ _ _ _ | rfl) (by first | rfl) ?_))
   | ((refine z_sti 6 rfl rfl ?_; refine o_store6 rfl tabOk rfl rfl rfl rfl rfl (by first | exact tb_0 _ _ | exact tb_1 _ _ | exact op_0 _ _ _ | exact op_1 _ _ _ | exact op_2 _ _ _ | exact fl_r _ _ _ _ | exact fl_a _ _ _ _ | rfl) (by first | rfl) ?_))))
   | (refine z_iscall ?_; first
   | ((refine z_iscallf 55 ?_; refine o_fn rfl Try.func55 rfl rfl rfl (free_n) (by decide) ?_))
   | ((refine z_iscallf 56 ?_; refine o_fn rfl Try.func56 rfl rfl rfl (at_nil _) (by decide) ?_)))
   | (refine z_isix ?_; first
   | refine o_index0 tabOk rfl rfl rfl rfl (by omega) (by omega) (by decide) ?_
   | refine o_index1 tabOk rfl rfl rfl rfl (by omega) (by omega) (by decide) ?_
   | refine o_indexsk1 tabOk rfl rfl rfl rfl (by omega) (by omega) (by decide) ?_
   | refine o_indexsk tabOk rfl rfl rfl rfl (by omega) (by omega) (by decide) ?_
   | refine o_indexs1 tabOk (by first | assumption) rfl rfl rfl rfl (by omega) (by omega) (by decide) ?_)
   | refine o_move rfl (by decide) ?_
   | refine o_assign rfl (by decide) ?_
   | refine o_nil rfl (by decide) ?_
   | refine o_extract rfl rfl (by decide) ?_
   | refine o_not rfl (by decide) ?_
   | refine o_field0 tabOk rfl rfl rfl rfl rfl (by decide) ?_
   | refine o_field tabOk rfl rfl rfl rfl rfl (by decide) ?_
   | refine o_conv tabOk rfl rfl rfl (by decide) ?_))
theorem seek_nil (i j : Int) : Pf Try.prog 42 [.pointer none, .agg (tb 0 0).toArray, .int .i64 i, .int .i64 j] (.bool false) := by
  intro w hw
  refine f_enter Try.func42 rfl Try.ntmps42 rfl hw ?_
  repeat' (first
   | (refine s_is ?_; first
   | (refine s_isret ?_; first
   | exact p_r1 rfl (res_t rfl))
   | (refine s_isw ?_; first
   | refine c_seq ?_
   | refine c_block ?_
   | refine c_region ?_
   | refine c_mixed mixed (by kernel_rfl) ?_
   | refine c_skip ?_
   | refine c_ret ?_
   | refine c_exit ?_
   | (refine s_iscond ?_; first
   | (refine c_true rfl (by first | with_reducible rfl | with_reducible assumption | ((with_reducible refine decide_eq_true ?_); first | with_reducible rfl | with_reducible assumption | omega)) ?_)
   | (refine c_false rfl (by first | with_reducible rfl | with_reducible assumption | ((with_reducible refine decide_eq_false ?_); first | with_reducible assumption | omega)) ?_)
   | (refine c_true rfl (by first | (simp only [Bool.not_eq_true', decide_eq_false_iff_not]; omega) | (with_reducible assumption) | (rw [decide_eq_false] <;> (first | omega | with_reducible rfl)) | (rw [decide_eq_true] <;> (first | omega | with_reducible rfl)) | (simp; done) | (simp; omega)) ?_)
   | (refine c_false rfl (by first | (simp only [Bool.not_eq_false', decide_eq_true_eq]; omega) | (with_reducible assumption) | (rw [decide_eq_false] <;> (first | omega | with_reducible rfl)) | (rw [decide_eq_true] <;> (first | omega | with_reducible rfl)) | (simp; done) | (simp; omega)) ?_)
   | refine c_cond rfl (fun hc => ?_) (fun hc => ?_)
   | refine c_condb rfl (fun hc => ?_) (fun hc => ?_)))
   | refine x_then ?_
   | refine x_then_ret ?_
   | refine x_then_exit ?_
   | refine x_block _ ?_
   | refine x_block_ret _ ?_
   | refine x_block_exit _ ?_
   | refine x_block_past (by decide) ?_
   | refine z_tailm ?_)
   | (refine z_isg0 ?_; first
   | refine z_skipu (by decide) rfl rfl ?_
   | (refine z_want0 rfl rfl (by first | with_reducible rfl | with_reducible assumption | ((with_reducible refine decide_eq_false ?_); first | with_reducible assumption | omega)) ?_)
   | (refine z_skip0 (by decide) rfl rfl (by first | with_reducible rfl | with_reducible assumption | ((with_reducible refine decide_eq_true ?_); first | with_reducible rfl | with_reducible assumption | omega)) ?_)
   | (refine z_want0 rfl rfl (by first | (simp only [Bool.not_eq_false', decide_eq_true_eq]; omega) | (with_reducible assumption) | (rw [decide_eq_false] <;> (first | omega | with_reducible rfl)) | (rw [decide_eq_true] <;> (first | omega | with_reducible rfl)) | (simp; done) | (simp; omega)) ?_)
   | (refine z_skip0 (by decide) rfl rfl (by first | (simp only [Bool.not_eq_true', decide_eq_false_iff_not]; omega) | (with_reducible assumption) | (rw [decide_eq_false] <;> (first | omega | with_reducible rfl)) | (rw [decide_eq_true] <;> (first | omega | with_reducible rfl)) | (simp; done) | (simp; omega)) ?_)
   | refine z_guard0 (by decide) rfl rfl (fun hc => ?_) (fun hc => ?_)
   | refine z_guardb (by decide) rfl rfl (fun hc => ?_) (fun hc => ?_))
   | (refine z_isnil ?_; first
   | refine z_list ?_
   | refine z_mixed ?_
   | refine z_mono0 ?_
   | refine z_mono1 (by decide) fun g => ?_
   | refine z_mono2 (by decide) (by decide) fun g g' => ?_
   | refine z_mixedx ?_
   | refine z_quiet ?_)
   | (refine z_isop ?_; first
   | refine o_boxa rfl rfl (by decide) fun g => ?_
   | refine o_alloca (e := 80) (vs := tb 0 0) rfl (by kernel_rfl) (by decide) fun g => ?_
   | refine o_alloca (e := 83) (vs := op3 0 0 0) rfl (by kernel_rfl) (by decide) fun g => ?_
   | refine o_build0 (t := 83) (v := .agg (op3 0 0 0).toArray) (fun _ => by kernel_rfl) (by decide) ?_
   | refine o_build0 (t := 80) (v := .agg (tb 0 0).toArray) (fun _ => by kernel_rfl) (by decide) ?_
   | (refine z_isbin ?_; first
   | refine o_eqa cmp80 rfl rfl (tb_typed _ _) (tb_typed _ _) (by decide) ?_
   | (refine z_isb .lss ?_; first
   | refine o_lt rfl rfl (by decide) ?_))
   | (refine z_isload ?_; first
   | (refine z_ld1 tabOk rfl rfl ?_; first
   | refine o_loadm tabOk rfl rfl rfl (by repeat' (first | exact List.mem_cons_self | apply List.mem_cons_of_mem)) (by first | exact tb_0 _ _ | exact tb_1 _ _ | exact op_0 _ _ _ | exact op_1 _ _ _ | exact op_2 _ _ _ | exact fl_r _ _ _ _ | exact fl_a _ _ _ _ | rfl) (by decide) ?_
   | refine o_loads tabOk (by first | assumption | exact Rds.cons _ (by assumption) | exact Rds.cons _ (Rds.cons _ (by assumption)) | exact own_rds 0 rfl | exact own_rds 1 rfl | exact own_rds 2 rfl) rfl rfl rfl (by first | exact tb_0 _ _ | exact tb_1 _ _ | exact op_0 _ _ _ | exact op_1 _ _ _ | exact op_2 _ _ _ | exact fl_r _ _ _ _ | exact fl_a _ _ _ _ | rfl) (by decide) ?_)
   | (refine z_ldw tabOk rfl rfl ?_; first
   | (refine o_loadwm tabOk rfl rfl rfl (by repeat' (first | exact List.mem_cons_self | apply List.mem_cons_of_mem)) (by first | exact tb_len _ _ | exact op_len _ _ _ | exact fl_len _ _ _ _ | (simp only [tb_len, op_len, fl_len]; done) | rfl) (by decide) ?_)))
   | (refine z_isstore ?_; first
   | (refine z_stw rfl ?_; first
   | ((refine z_sti 0 rfl rfl ?_; refine o_storeb0 rfl tabOk rfl rfl rfl (by first | exact tb_len _ _ | exact op_len _ _ _ | exact fl_len _ _ _ _ | (simp only [tb_len, op_len, fl_len]; done) | rfl) (by first | exact tb_one _ _ | exact op_one _ _ _ | exact fl_one _ _ _ _ | rfl) (by first | exact tb_len _ _ | exact op_len _ _ _ | exact fl_len _ _ _ _ | (simp only [tb_len, op_len, fl_len]; done) | rfl) ?_))
   | ((refine z_sti 1 rfl rfl ?_; refine o_storeb1 rfl tabOk rfl rfl rfl (by first | exact tb_len _ _ | exact op_len _ _ _ | exact fl_len _ _ _ _ | (simp only [tb_len, op_len, fl_len]; done) | rfl) (by first | exact tb_one _ _ | exact op_one _ _ _ | exact fl_one _ _ _ _ | rfl) (by first | exact tb_len _ _ | exact op_len _ _ _ | exact fl_len _ _ _ _ | (simp only [tb_len, op_len, fl_len]; done) | rfl) ?_))
   | ((refine z_sti 2 rfl rfl ?_; refine o_storeb2 rfl tabOk rfl rfl rfl (by first | exact tb_len _ _ | exact op_len _ _ _ | exact fl_len _ _ _ _ | (simp only [tb_len, op_len, fl_len]; done) | rfl) (by first | exact tb_one _ _ | exact op_one _ _ _ | exact fl_one _ _ _ _ | rfl) (by first | exact tb_len _ _ | exact op_len _ _ _ | exact fl_len _ _ _ _ | (simp only [tb_len, op_len, fl_len]; done) | rfl) ?_))
   | ((refine z_sti 3 rfl rfl ?_; refine o_storeb3 rfl tabOk rfl rfl rfl (by first | exact tb_len _ _ | exact op_len _ _ _ | exact fl_len _ _ _ _ | (simp only [tb_len, op_len, fl_len]; done) | rfl) (by first | exact tb_one _ _ | exact op_one _ _ _ | exact fl_one _ _ _ _ | rfl) (by first | exact tb_len _ _ | exact op_len _ _ _ | exact fl_len _ _ _ _ | (simp only [tb_len, op_len, fl_len]; done) | rfl) ?_))
   | ((refine z_sti 4 rfl rfl ?_; refine o_storeb4 rfl tabOk rfl rfl rfl (by first | exact tb_len _ _ | exact op_len _ _ _ | exact fl_len _ _ _ _ | (simp only [tb_len, op_len, fl_len]; done) | rfl) (by first | exact tb_one _ _ | exact op_one _ _ _ | exact fl_one _ _ _ _ | rfl) (by first | exact tb_len _ _ | exact op_len _ _ _ | exact fl_len _ _ _ _ | (simp only [tb_len, op_len, fl_len]; done) | rfl) ?_))
   | ((refine z_sti 5 rfl rfl ?_; refine o_storeb5 rfl tabOk rfl rfl rfl (by first | exact tb_len _ _ | exact op_len _ _ _ | exact fl_len _ _ _ _ | (simp only [tb_len, op_len, fl_len]; done) | rfl) (by first | exact tb_one _ _ | exact op_one _ _ _ | exact fl_one _ _ _ _ | rfl) (by first | exact tb_len _ _ | exact op_len _ _ _ | exact fl_len _ _ _ _ | (simp only [tb_len, op_len, fl_len]; done) | rfl) ?_))
   | ((refine z_sti 6 rfl rfl ?_; refine o_storeb6 rfl tabOk rfl rfl rfl (by first | exact tb_len _ _ | exact op_len _ _ _ | exact fl_len _ _ _ _ | (simp only [tb_len, op_len, fl_len]; done) | rfl) (by first | exact tb_one _ _ | exact op_one _ _ _ | exact fl_one _ _ _ _ | rfl) (by first | exact tb_len _ _ | exact op_len _ _ _ | exact fl_len _ _ _ _ | (simp only [tb_len, op_len, fl_len]; done) | rfl) ?_)))
   | (refine z_st1 rfl rfl ?_; first
   | refine o_store rfl tabOk rfl rfl rfl rfl rfl (by first | exact tb_0 _ _ | exact tb_1 _ _ | exact op_0 _ _ _ | exact op_1 _ _ _ | exact op_2 _ _ _ | exact fl_r _ _ _ _ | exact fl_a _ _ _ _ | rfl) (by first | rfl) ?_
   | ((refine z_sti 1 rfl rfl ?_; refine o_store1 rfl tabOk rfl rfl rfl rfl rfl (by first | exact tb_0 _ _ | exact tb_1 _ _ | exact op_0 _ _ _ | exact op_1 _ _ _ | exact op_2 _ _ _ | exact fl_r _ _ _ _ | exact fl_a _ _ _ _ | rfl) (by first | rfl) ?_))
   | ((refine z_sti 2 rfl rfl ?_; refine o_store2 rfl tabOk rfl rfl rfl rfl rfl (by first | exact tb_0 _ _ | exact tb_1 _ _ | exact op_0 _ _ _ | exact op_1 _ _ _ | exact op_2 _ _ _ | exact fl_r _ _ _ _ | exact fl_a _ _ _ _ | rfl) (by first | rfl) ?_))
   | ((refine z_sti 3 rfl rfl ?_; refine o_store3 rfl tabOk rfl rfl rfl rfl rfl (by first | exact tb_0 _ _ | exact tb_1 _ _ | exact op_0 _ _ _ | exact op_1 _ _ _ | exact op_2 _ _ _ | exact fl_r _ _ _ _ | exact fl_a _ _ _ _ | rfl) (by first | rfl) ?_))
   | ((refine z_sti 4 rfl rfl ?_; refine o_store4 rfl tabOk rfl rfl rfl rfl rfl (by first | exact tb_0 _ _ | exact tb_1 _ _ | exact op_0 _ _ _ | exact op_1 _ _ _ | exact op_2 _ _ _ | exact fl_r _ _ _ _ | exact fl_a _ _ _ _ | rfl) (by first | rfl) ?_))
   | ((refine z_sti 5 rfl rfl ?_; refine o_store5 rfl tabOk rfl rfl rfl rfl rfl (by first | exact tb_0 _ _ | exact tb_1 _ _ | exact op_0 _ _ _ | exact op_1 _ _ _ | exact op_2 _ _ _ | exact fl_r _ _ _ _ | exact fl_a _ _ _ _ | rfl) (by first | rfl) ?_))
   | ((refine z_sti 6 rfl rfl ?_; refine o_store6 rfl tabOk rfl rfl rfl rfl rfl (by first | exact tb_0 _ _ | exact tb_1 _ _ | exact op_0 _ _ _ | exact op_1 _ _ _ | exact op_2 _ _ _ | exact fl_r _ _ _ _ | exact fl_a _ _ _ _ | rfl) (by first | rfl) ?_))))
   | (refine z_iscall ?_; first
   | ((refine z_iscallf 55 ?_; refine o_fn rfl Try.func55 rfl rfl rfl (free_n) (by decide) ?_))
   | ((refine z_iscallf 56 ?_; refine o_fn rfl Try.func56 rfl rfl rfl (at_nil _) (by decide) ?_)))
   | (refine z_ispick ?_; first
   | (refine o_pick1 rfl (by first | with_reducible rfl | with_reducible assumption | ((with_reducible refine decide_eq_true ?_); first | with_reducible rfl | with_reducible assumption | omega)) rfl (by decide) ?_)
   | (refine o_pick0 rfl (by first | with_reducible rfl | with_reducible assumption | ((with_reducible refine decide_eq_false ?_); first | with_reducible assumption | omega)) rfl (by decide) ?_)
   | (refine o_pick1 rfl (by first | (simp only [Bool.not_eq_true', decide_eq_false_iff_not]; omega) | (with_reducible assumption) | (rw [decide_eq_false] <;> (first | omega | with_reducible rfl)) | (rw [decide_eq_true] <;> (first | omega | with_reducible rfl)) | (simp; done) | (simp; omega)) rfl (by decide) ?_)
   | (refine o_pick0 rfl (by first | (simp only [Bool.not_eq_false', decide_eq_true_eq]; omega) | (with_reducible assumption) | (rw [decide_eq_false] <;> (first | omega | with_reducible rfl)) | (rw [decide_eq_true] <;> (first | omega | with_reducible rfl)) | (simp; done) | (simp; omega)) rfl (by decide) ?_))
   | (refine z_isix ?_; first
   | refine o_index0 tabOk rfl rfl rfl rfl (by omega) (by omega) (by decide) ?_
   | refine o_index1 tabOk rfl rfl rfl rfl (by omega) (by omega) (by decide) ?_
   | refine o_indexsk1 tabOk rfl rfl rfl rfl (by omega) (by omega) (by decide) ?_
   | refine o_indexsk tabOk rfl rfl rfl rfl (by omega) (by omega) (by decide) ?_
   | refine o_indexs1 tabOk (by first | assumption) rfl rfl rfl rfl (by omega) (by omega) (by decide) ?_)
   | refine o_move rfl (by decide) ?_
   | refine o_assign rfl (by decide) ?_
   | refine o_nil rfl (by decide) ?_
   | refine o_extract rfl rfl (by decide) ?_
   | refine o_not rfl (by decide) ?_
   | refine o_field0 tabOk rfl rfl rfl rfl rfl (by decide) ?_
   | refine o_field tabOk rfl rfl rfl rfl rfl (by decide) ?_
   | refine o_conv tabOk rfl rfl rfl (by decide) ?_))
theorem has_nil (i j : Int) : Pf Try.prog 43 [.pointer none, .int .i64 i, .int .i64 j] (.bool false) := by
  intro w hw
  refine f_enter Try.func43 rfl Try.ntmps43 rfl hw ?_
  repeat' (first
   | (refine s_is ?_; first
   | (refine s_isret ?_; first
   | exact p_r1 rfl (res_t rfl))
   | (refine s_isw ?_; first
   | refine c_seq ?_
   | refine c_block ?_
   | refine c_region ?_
   | refine c_mixed mixed (by kernel_rfl) ?_
   | refine c_skip ?_
   | refine c_ret ?_
   | refine c_exit ?_
   | (refine s_iscond ?_; first
   | (refine c_true rfl (by first | with_reducible rfl | with_reducible assumption | ((with_reducible refine decide_eq_true ?_); first | with_reducible rfl | with_reducible assumption | omega)) ?_)
   | (refine c_false rfl (by first | with_reducible rfl | with_reducible assumption | ((with_reducible refine decide_eq_false ?_); first | with_reducible assumption | omega)) ?_)
   | (refine c_true rfl (by first | (simp only [Bool.not_eq_true', decide_eq_false_iff_not]; omega) | (with_reducible assumption) | (rw [decide_eq_false] <;> (first | omega | with_reducible rfl)) | (rw [decide_eq_true] <;> (first | omega | with_reducible rfl)) | (simp; done) | (simp; omega)) ?_)
   | (refine c_false rfl (by first | (simp only [Bool.not_eq_false', decide_eq_true_eq]; omega) | (with_reducible assumption) | (rw [decide_eq_false] <;> (first | omega | with_reducible rfl)) | (rw [decide_eq_true] <;> (first | omega | with_reducible rfl)) | (simp; done) | (simp; omega)) ?_)
   | refine c_cond rfl (fun hc => ?_) (fun hc => ?_)
   | refine c_condb rfl (fun hc => ?_) (fun hc => ?_)))
   | refine x_then ?_
   | refine x_then_ret ?_
   | refine x_then_exit ?_
   | refine x_block _ ?_
   | refine x_block_ret _ ?_
   | refine x_block_exit _ ?_
   | refine x_block_past (by decide) ?_
   | refine z_tailm ?_)
   | (refine z_isg1 ?_; first
   | refine z_skipu (by decide) rfl rfl ?_
   | (refine z_want1 rfl rfl (by first | with_reducible rfl | with_reducible assumption | ((with_reducible refine decide_eq_true ?_); first | with_reducible rfl | with_reducible assumption | omega)) ?_)
   | (refine z_skip1 (by decide) rfl rfl (by first | with_reducible rfl | with_reducible assumption | ((with_reducible refine decide_eq_false ?_); first | with_reducible assumption | omega)) ?_)
   | (refine z_want1 rfl rfl (by first | (simp only [Bool.not_eq_true', decide_eq_false_iff_not]; omega) | (with_reducible assumption) | (rw [decide_eq_false] <;> (first | omega | with_reducible rfl)) | (rw [decide_eq_true] <;> (first | omega | with_reducible rfl)) | (simp; done) | (simp; omega)) ?_)
   | (refine z_skip1 (by decide) rfl rfl (by first | (simp only [Bool.not_eq_false', decide_eq_true_eq]; omega) | (with_reducible assumption) | (rw [decide_eq_false] <;> (first | omega | with_reducible rfl)) | (rw [decide_eq_true] <;> (first | omega | with_reducible rfl)) | (simp; done) | (simp; omega)) ?_)
   | refine z_guard1 (by decide) rfl rfl (fun hc => ?_) (fun hc => ?_)
   | refine z_guardb (by decide) rfl rfl (fun hc => ?_) (fun hc => ?_))
   | (refine z_isnil ?_; first
   | refine z_list ?_
   | refine z_mixed ?_
   | refine z_mono0 ?_
   | refine z_mono1 (by decide) fun g => ?_
   | refine z_mono2 (by decide) (by decide) fun g g' => ?_
   | refine z_mixedx ?_
   | refine z_quiet ?_)
   | (refine z_isop ?_; first
   | refine o_boxa rfl rfl (by decide) fun g => ?_
   | refine o_alloca (e := 80) (vs := tb 0 0) rfl (by kernel_rfl) (by decide) fun g => ?_
   | refine o_alloca (e := 83) (vs := op3 0 0 0) rfl (by kernel_rfl) (by decide) fun g => ?_
   | refine o_build0 (t := 83) (v := .agg (op3 0 0 0).toArray) (fun _ => by kernel_rfl) (by decide) ?_
   | refine o_build0 (t := 80) (v := .agg (tb 0 0).toArray) (fun _ => by kernel_rfl) (by decide) ?_
   | (refine z_isbin ?_; first
   | refine o_eqa cmp80 rfl rfl (tb_typed _ _) (tb_typed _ _) (by decide) ?_
   | (refine z_isb .add ?_; first
   | refine o_add rfl rfl (by omega) (by omega) (by decide) ?_
   | refine o_addw rfl rfl (by decide) ?_)
   | (refine z_isb .eql ?_; first
   | refine o_eq rfl rfl (by decide) ?_
   | refine o_beq tabOk rfl rfl rfl (by decide) ?_
   | refine o_peq tabOk rfl rfl (by decide) ?_)
   | (refine z_isb .neq ?_; first
   | refine o_ne rfl rfl (by decide) ?_
   | refine o_bne tabOk rfl rfl rfl (by decide) ?_
   | refine o_pne tabOk rfl rfl (by decide) ?_)
   | (refine z_isb .lss ?_; first
   | refine o_lt rfl rfl (by decide) ?_)
   | (refine z_isb .gtr ?_; first
   | refine o_gt rfl rfl (by decide) ?_))
   | (refine z_isload ?_; first
   | (refine z_ld1 tabOk rfl rfl ?_; first
   | refine o_loadm tabOk rfl rfl rfl (by repeat' (first | exact List.mem_cons_self | apply List.mem_cons_of_mem)) (by first | exact tb_0 _ _ | exact tb_1 _ _ | exact op_0 _ _ _ | exact op_1 _ _ _ | exact op_2 _ _ _ | exact fl_r _ _ _ _ | exact fl_a _ _ _ _ | rfl) (by decide) ?_
   | refine o_loads tabOk (by first | assumption | exact Rds.cons _ (by assumption) | exact Rds.cons _ (Rds.cons _ (by assumption)) | exact own_rds 0 rfl | exact own_rds 1 rfl | exact own_rds 2 rfl) rfl rfl rfl (by first | exact tb_0 _ _ | exact tb_1 _ _ | exact op_0 _ _ _ | exact op_1 _ _ _ | exact op_2 _ _ _ | exact fl_r _ _ _ _ | exact fl_a _ _ _ _ | rfl) (by decide) ?_)
   | (refine z_ldw tabOk rfl rfl ?_; first
   | (refine o_loadwm tabOk rfl rfl rfl (by repeat' (first | exact List.mem_cons_self | apply List.mem_cons_of_mem)) (by first | exact tb_len _ _ | exact op_len _ _ _ | exact fl_len _ _ _ _ | (simp only [tb_len, op_len, fl_len]; done) | rfl) (by decide) ?_)))
   | (refine z_isstore ?_; first
   | (refine z_stw rfl ?_; first
   | ((refine z_sti 0 rfl rfl ?_; refine o_storeb0 rfl tabOk rfl rfl rfl (by first | exact tb_len _ _ | exact op_len _ _ _ | exact fl_len _ _ _ _ | (simp only [tb_len, op_len, fl_len]; done) | rfl) (by first | exact tb_one _ _ | exact op_one _ _ _ | exact fl_one _ _ _ _ | rfl) (by first | exact tb_len _ _ | exact op_len _ _ _ | exact fl_len _ _ _ _ | (simp only [tb_len, op_len, fl_len]; done) | rfl) ?_))
   | ((refine z_sti 1 rfl rfl ?_; refine o_storeb1 rfl tabOk rfl rfl rfl (by first | exact tb_len _ _ | exact op_len _ _ _ | exact fl_len _ _ _ _ | (simp only [tb_len, op_len, fl_len]; done) | rfl) (by first | exact tb_one _ _ | exact op_one _ _ _ | exact fl_one _ _ _ _ | rfl) (by first | exact tb_len _ _ | exact op_len _ _ _ | exact fl_len _ _ _ _ | (simp only [tb_len, op_len, fl_len]; done) | rfl) ?_))
   | ((refine z_sti 2 rfl rfl ?_; refine o_storeb2 rfl tabOk rfl rfl rfl (by first | exact tb_len _ _ | exact op_len _ _ _ | exact fl_len _ _ _ _ | (simp only [tb_len, op_len, fl_len]; done) | rfl) (by first | exact tb_one _ _ | exact op_one _ _ _ | exact fl_one _ _ _ _ | rfl) (by first | exact tb_len _ _ | exact op_len _ _ _ | exact fl_len _ _ _ _ | (simp only [tb_len, op_len, fl_len]; done) | rfl) ?_))
   | ((refine z_sti 3 rfl rfl ?_; refine o_storeb3 rfl tabOk rfl rfl rfl (by first | exact tb_len _ _ | exact op_len _ _ _ | exact fl_len _ _ _ _ | (simp only [tb_len, op_len, fl_len]; done) | rfl) (by first | exact tb_one _ _ | exact op_one _ _ _ | exact fl_one _ _ _ _ | rfl) (by first | exact tb_len _ _ | exact op_len _ _ _ | exact fl_len _ _ _ _ | (simp only [tb_len, op_len, fl_len]; done) | rfl) ?_))
   | ((refine z_sti 4 rfl rfl ?_; refine o_storeb4 rfl tabOk rfl rfl rfl (by first | exact tb_len _ _ | exact op_len _ _ _ | exact fl_len _ _ _ _ | (simp only [tb_len, op_len, fl_len]; done) | rfl) (by first | exact tb_one _ _ | exact op_one _ _ _ | exact fl_one _ _ _ _ | rfl) (by first | exact tb_len _ _ | exact op_len _ _ _ | exact fl_len _ _ _ _ | (simp only [tb_len, op_len, fl_len]; done) | rfl) ?_))
   | ((refine z_sti 5 rfl rfl ?_; refine o_storeb5 rfl tabOk rfl rfl rfl (by first | exact tb_len _ _ | exact op_len _ _ _ | exact fl_len _ _ _ _ | (simp only [tb_len, op_len, fl_len]; done) | rfl) (by first | exact tb_one _ _ | exact op_one _ _ _ | exact fl_one _ _ _ _ | rfl) (by first | exact tb_len _ _ | exact op_len _ _ _ | exact fl_len _ _ _ _ | (simp only [tb_len, op_len, fl_len]; done) | rfl) ?_))
   | ((refine z_sti 6 rfl rfl ?_; refine o_storeb6 rfl tabOk rfl rfl rfl (by first | exact tb_len _ _ | exact op_len _ _ _ | exact fl_len _ _ _ _ | (simp only [tb_len, op_len, fl_len]; done) | rfl) (by first | exact tb_one _ _ | exact op_one _ _ _ | exact fl_one _ _ _ _ | rfl) (by first | exact tb_len _ _ | exact op_len _ _ _ | exact fl_len _ _ _ _ | (simp only [tb_len, op_len, fl_len]; done) | rfl) ?_)))
   | (refine z_st1 rfl rfl ?_; first
   | refine o_store rfl tabOk rfl rfl rfl rfl rfl (by first | exact tb_0 _ _ | exact tb_1 _ _ | exact op_0 _ _ _ | exact op_1 _ _ _ | exact op_2 _ _ _ | exact fl_r _ _ _ _ | exact fl_a _ _ _ _ | rfl) (by first | rfl) ?_
   | ((refine z_sti 1 rfl rfl ?_; refine o_store1 rfl tabOk rfl rfl rfl rfl rfl (by first | exact tb_0 _ _ | exact tb_1 _ _ | exact op_0 _ _ _ | exact op_1 _ _ _ | exact op_2 _ _ _ | exact fl_r _ _ _ _ | exact fl_a _ _ _ _ | rfl) (by first | rfl) ?_))
   | ((refine z_sti 2 rfl rfl ?_; refine o_store2 rfl tabOk rfl rfl rfl rfl rfl (by first | exact tb_0 _ _ | exact tb_1 _ _ | exact op_0 _ _ _ | exact op_1 _ _ _ | exact op_2 _ _ _ | exact fl_r _ _ _ _ | exact fl_a _ _ _ _ | rfl) (by first | rfl) ?_))
   | ((refine z_sti 3 rfl rfl ?_; refine o_store3 rfl tabOk rfl rfl rfl rfl rfl (by first | exact tb_0 _ _ | exact tb_1 _ _ | exact op_0 _ _ _ | exact op_1 _ _ _ | exact op_2 _ _ _ | exact fl_r _ _ _ _ | exact fl_a _ _ _ _ | rfl) (by first | rfl) ?_))
   | ((refine z_sti 4 rfl rfl ?_; refine o_store4 rfl tabOk rfl rfl rfl rfl rfl (by first | exact tb_0 _ _ | exact tb_1 _ _ | exact op_0 _ _ _ | exact op_1 _ _ _ | exact op_2 _ _ _ | exact fl_r _ _ _ _ | exact fl_a _ _ _ _ | rfl) (by first | rfl) ?_))
   | ((refine z_sti 5 rfl rfl ?_; refine o_store5 rfl tabOk rfl rfl rfl rfl rfl (by first | exact tb_0 _ _ | exact tb_1 _ _ | exact op_0 _ _ _ | exact op_1 _ _ _ | exact op_2 _ _ _ | exact fl_r _ _ _ _ | exact fl_a _ _ _ _ | rfl) (by first | rfl) ?_))
   | ((refine z_sti 6 rfl rfl ?_; refine o_store6 rfl tabOk rfl rfl rfl rfl rfl (by first | exact tb_0 _ _ | exact tb_1 _ _ | exact op_0 _ _ _ | exact op_1 _ _ _ | exact op_2 _ _ _ | exact fl_r _ _ _ _ | exact fl_a _ _ _ _ | rfl) (by first | rfl) ?_))))
   | (refine z_isindex ?_; first
   | refine o_ixv tabOk rfl rfl rfl rfl rfl (by omega) (by omega) (by first | exact tb_0 _ _ | exact tb_1 _ _ | exact op_0 _ _ _ | exact op_1 _ _ _ | exact op_2 _ _ _ | exact fl_r _ _ _ _ | exact fl_a _ _ _ _ | rfl) (by decide) ?_)
   | (refine z_iscall ?_; first
   | ((refine z_iscallf 55 ?_; refine o_fn rfl Try.func55 rfl rfl rfl (free_n) (by decide) ?_))
   | ((refine z_iscallf 56 ?_; refine o_fn rfl Try.func56 rfl rfl rfl (at_nil _) (by decide) ?_)))
   | (refine z_ispick ?_; first
   | (refine o_pick1 rfl (by first | with_reducible rfl | with_reducible assumption | ((with_reducible refine decide_eq_true ?_); first | with_reducible rfl | with_reducible assumption | omega)) rfl (by decide) ?_)
   | (refine o_pick0 rfl (by first | with_reducible rfl | with_reducible assumption | ((with_reducible refine decide_eq_false ?_); first | with_reducible assumption | omega)) rfl (by decide) ?_)
   | (refine o_pick1 rfl (by first | (simp only [Bool.not_eq_true', decide_eq_false_iff_not]; omega) | (with_reducible assumption) | (rw [decide_eq_false] <;> (first | omega | with_reducible rfl)) | (rw [decide_eq_true] <;> (first | omega | with_reducible rfl)) | (simp; done) | (simp; omega)) rfl (by decide) ?_)
   | (refine o_pick0 rfl (by first | (simp only [Bool.not_eq_false', decide_eq_true_eq]; omega) | (with_reducible assumption) | (rw [decide_eq_false] <;> (first | omega | with_reducible rfl)) | (rw [decide_eq_true] <;> (first | omega | with_reducible rfl)) | (simp; done) | (simp; omega)) rfl (by decide) ?_))
   | (refine z_isix ?_; first
   | refine o_index0 tabOk rfl rfl rfl rfl (by omega) (by omega) (by decide) ?_
   | refine o_index1 tabOk rfl rfl rfl rfl (by omega) (by omega) (by decide) ?_
   | refine o_indexsk1 tabOk rfl rfl rfl rfl (by omega) (by omega) (by decide) ?_
   | refine o_indexsk tabOk rfl rfl rfl rfl (by omega) (by omega) (by decide) ?_
   | refine o_indexs1 tabOk (by first | assumption) rfl rfl rfl rfl (by omega) (by omega) (by decide) ?_)
   | refine o_move rfl (by decide) ?_
   | refine o_assign rfl (by decide) ?_
   | refine o_nil rfl (by decide) ?_
   | refine o_extract rfl rfl (by decide) ?_
   | refine o_not rfl (by decide) ?_
   | refine o_field0 tabOk rfl rfl rfl rfl rfl (by decide) ?_
   | refine o_field tabOk rfl rfl rfl rfl rfl (by decide) ?_
   | refine o_conv tabOk rfl rfl rfl (by decide) ?_))
theorem room_nil (i : Int) : Pf Try.prog 44 [.pointer none, .agg (tb 0 0).toArray, .int .i64 i] (.bool false) := by
  intro w hw
  refine f_enter Try.func44 rfl Try.ntmps44 rfl hw ?_
  repeat' (first
   | (refine s_is ?_; first
   | (refine s_isret ?_; first
   | exact p_r1 rfl (res_t rfl))
   | (refine s_isw ?_; first
   | refine c_seq ?_
   | refine c_block ?_
   | refine c_region ?_
   | refine c_mixed mixed (by kernel_rfl) ?_
   | refine c_skip ?_
   | refine c_ret ?_
   | refine c_exit ?_
   | (refine s_iscond ?_; first
   | (refine c_true rfl (by first | with_reducible rfl | with_reducible assumption | ((with_reducible refine decide_eq_true ?_); first | with_reducible rfl | with_reducible assumption | omega)) ?_)
   | (refine c_false rfl (by first | with_reducible rfl | with_reducible assumption | ((with_reducible refine decide_eq_false ?_); first | with_reducible assumption | omega)) ?_)
   | (refine c_true rfl (by first | (simp only [Bool.not_eq_true', decide_eq_false_iff_not]; omega) | (with_reducible assumption) | (rw [decide_eq_false] <;> (first | omega | with_reducible rfl)) | (rw [decide_eq_true] <;> (first | omega | with_reducible rfl)) | (simp; done) | (simp; omega)) ?_)
   | (refine c_false rfl (by first | (simp only [Bool.not_eq_false', decide_eq_true_eq]; omega) | (with_reducible assumption) | (rw [decide_eq_false] <;> (first | omega | with_reducible rfl)) | (rw [decide_eq_true] <;> (first | omega | with_reducible rfl)) | (simp; done) | (simp; omega)) ?_)
   | refine c_cond rfl (fun hc => ?_) (fun hc => ?_)
   | refine c_condb rfl (fun hc => ?_) (fun hc => ?_)))
   | refine x_then ?_
   | refine x_then_ret ?_
   | refine x_then_exit ?_
   | refine x_block _ ?_
   | refine x_block_ret _ ?_
   | refine x_block_exit _ ?_
   | refine x_block_past (by decide) ?_
   | refine z_tailm ?_)
   | (refine z_isg1 ?_; first
   | refine z_skipu (by decide) rfl rfl ?_
   | (refine z_want1 rfl rfl (by first | with_reducible rfl | with_reducible assumption | ((with_reducible refine decide_eq_true ?_); first | with_reducible rfl | with_reducible assumption | omega)) ?_)
   | (refine z_skip1 (by decide) rfl rfl (by first | with_reducible rfl | with_reducible assumption | ((with_reducible refine decide_eq_false ?_); first | with_reducible assumption | omega)) ?_)
   | (refine z_want1 rfl rfl (by first | (simp only [Bool.not_eq_true', decide_eq_false_iff_not]; omega) | (with_reducible assumption) | (rw [decide_eq_false] <;> (first | omega | with_reducible rfl)) | (rw [decide_eq_true] <;> (first | omega | with_reducible rfl)) | (simp; done) | (simp; omega)) ?_)
   | (refine z_skip1 (by decide) rfl rfl (by first | (simp only [Bool.not_eq_false', decide_eq_true_eq]; omega) | (with_reducible assumption) | (rw [decide_eq_false] <;> (first | omega | with_reducible rfl)) | (rw [decide_eq_true] <;> (first | omega | with_reducible rfl)) | (simp; done) | (simp; omega)) ?_)
   | refine z_guard1 (by decide) rfl rfl (fun hc => ?_) (fun hc => ?_)
   | refine z_guardb (by decide) rfl rfl (fun hc => ?_) (fun hc => ?_))
   | (refine z_isnil ?_; first
   | refine z_list ?_
   | refine z_mixed ?_
   | refine z_mono0 ?_
   | refine z_mono1 (by decide) fun g => ?_
   | refine z_mono2 (by decide) (by decide) fun g g' => ?_
   | refine z_mixedx ?_
   | refine z_quiet ?_)
   | (refine z_isop ?_; first
   | refine o_boxa rfl rfl (by decide) fun g => ?_
   | refine o_alloca (e := 80) (vs := tb 0 0) rfl (by kernel_rfl) (by decide) fun g => ?_
   | refine o_alloca (e := 83) (vs := op3 0 0 0) rfl (by kernel_rfl) (by decide) fun g => ?_
   | refine o_build0 (t := 83) (v := .agg (op3 0 0 0).toArray) (fun _ => by kernel_rfl) (by decide) ?_
   | refine o_build0 (t := 80) (v := .agg (tb 0 0).toArray) (fun _ => by kernel_rfl) (by decide) ?_
   | (refine z_isbin ?_; first
   | refine o_eqa cmp80 rfl rfl (tb_typed _ _) (tb_typed _ _) (by decide) ?_
   | (refine z_isb .add ?_; first
   | refine o_add rfl rfl (by omega) (by omega) (by decide) ?_
   | refine o_addw rfl rfl (by decide) ?_)
   | (refine z_isb .sub ?_; first
   | refine o_sub rfl rfl (by omega) (by omega) (by decide) ?_
   | refine o_subw rfl rfl (by decide) ?_)
   | (refine z_isb .eql ?_; first
   | refine o_eq rfl rfl (by decide) ?_
   | refine o_beq tabOk rfl rfl rfl (by decide) ?_
   | refine o_peq tabOk rfl rfl (by decide) ?_)
   | (refine z_isb .lss ?_; first
   | refine o_lt rfl rfl (by decide) ?_)
   | (refine z_isb .leq ?_; first
   | refine o_le rfl rfl (by decide) ?_))
   | (refine z_isload ?_; first
   | (refine z_ld1 tabOk rfl rfl ?_; first
   | refine o_loadm tabOk rfl rfl rfl (by repeat' (first | exact List.mem_cons_self | apply List.mem_cons_of_mem)) (by first | exact tb_0 _ _ | exact tb_1 _ _ | exact op_0 _ _ _ | exact op_1 _ _ _ | exact op_2 _ _ _ | exact fl_r _ _ _ _ | exact fl_a _ _ _ _ | rfl) (by decide) ?_
   | refine o_loads tabOk (by first | assumption | exact Rds.cons _ (by assumption) | exact Rds.cons _ (Rds.cons _ (by assumption)) | exact own_rds 0 rfl | exact own_rds 1 rfl | exact own_rds 2 rfl) rfl rfl rfl (by first | exact tb_0 _ _ | exact tb_1 _ _ | exact op_0 _ _ _ | exact op_1 _ _ _ | exact op_2 _ _ _ | exact fl_r _ _ _ _ | exact fl_a _ _ _ _ | rfl) (by decide) ?_)
   | (refine z_ldw tabOk rfl rfl ?_; first
   | (refine o_loadwm tabOk rfl rfl rfl (by repeat' (first | exact List.mem_cons_self | apply List.mem_cons_of_mem)) (by first | exact tb_len _ _ | exact op_len _ _ _ | exact fl_len _ _ _ _ | (simp only [tb_len, op_len, fl_len]; done) | rfl) (by decide) ?_)))
   | (refine z_isindex ?_; first
   | refine o_ixv tabOk rfl rfl rfl rfl rfl (by omega) (by omega) (by first | exact tb_0 _ _ | exact tb_1 _ _ | exact op_0 _ _ _ | exact op_1 _ _ _ | exact op_2 _ _ _ | exact fl_r _ _ _ _ | exact fl_a _ _ _ _ | rfl) (by decide) ?_)
   | (refine z_iscall ?_; first
   | ((refine z_iscallf 55 ?_; refine o_fn rfl Try.func55 rfl rfl rfl (free_n) (by decide) ?_))
   | ((refine z_iscallf 56 ?_; refine o_fn rfl Try.func56 rfl rfl rfl (at_nil _) (by decide) ?_)))
   | (refine z_ispick ?_; first
   | (refine o_pick1 rfl (by first | with_reducible rfl | with_reducible assumption | ((with_reducible refine decide_eq_true ?_); first | with_reducible rfl | with_reducible assumption | omega)) rfl (by decide) ?_)
   | (refine o_pick0 rfl (by first | with_reducible rfl | with_reducible assumption | ((with_reducible refine decide_eq_false ?_); first | with_reducible assumption | omega)) rfl (by decide) ?_)
   | (refine o_pick1 rfl (by first | (simp only [Bool.not_eq_true', decide_eq_false_iff_not]; omega) | (with_reducible assumption) | (rw [decide_eq_false] <;> (first | omega | with_reducible rfl)) | (rw [decide_eq_true] <;> (first | omega | with_reducible rfl)) | (simp; done) | (simp; omega)) rfl (by decide) ?_)
   | (refine o_pick0 rfl (by first | (simp only [Bool.not_eq_false', decide_eq_true_eq]; omega) | (with_reducible assumption) | (rw [decide_eq_false] <;> (first | omega | with_reducible rfl)) | (rw [decide_eq_true] <;> (first | omega | with_reducible rfl)) | (simp; done) | (simp; omega)) rfl (by decide) ?_))
   | refine o_move rfl (by decide) ?_
   | refine o_assign rfl (by decide) ?_
   | refine o_nil rfl (by decide) ?_
   | refine o_extract rfl rfl (by decide) ?_
   | refine o_not rfl (by decide) ?_
   | refine o_field0 tabOk rfl rfl rfl rfl rfl (by decide) ?_
   | refine o_field tabOk rfl rfl rfl rfl rfl (by decide) ?_
   | refine o_conv tabOk rfl rfl rfl (by decide) ?_))
theorem len_nil : Pf Try.prog 45 [.pointer none] (.int .i64 0) := by
  intro w hw
  refine f_enter Try.func45 rfl Try.ntmps45 rfl hw ?_
  repeat' (first
   | (refine s_is ?_; first
   | (refine s_isret ?_; first
   | exact p_r1 rfl (res_t rfl))
   | (refine s_isw ?_; first
   | refine c_seq ?_
   | refine c_block ?_
   | refine c_region ?_
   | refine c_mixed mixed (by kernel_rfl) ?_
   | refine c_skip ?_
   | refine c_ret ?_
   | refine c_exit ?_
   | (refine s_iscond ?_; first
   | (refine c_true rfl (by first | with_reducible rfl | with_reducible assumption | ((with_reducible refine decide_eq_true ?_); first | with_reducible rfl | with_reducible assumption | omega)) ?_)
   | (refine c_false rfl (by first | with_reducible rfl | with_reducible assumption | ((with_reducible refine decide_eq_false ?_); first | with_reducible assumption | omega)) ?_)
   | (refine c_true rfl (by first | (simp only [Bool.not_eq_true', decide_eq_false_iff_not]; omega) | (with_reducible assumption) | (rw [decide_eq_false] <;> (first | omega | with_reducible rfl)) | (rw [decide_eq_true] <;> (first | omega | with_reducible rfl)) | (simp; done) | (simp; omega)) ?_)
   | (refine c_false rfl (by first | (simp only [Bool.not_eq_false', decide_eq_true_eq]; omega) | (with_reducible assumption) | (rw [decide_eq_false] <;> (first | omega | with_reducible rfl)) | (rw [decide_eq_true] <;> (first | omega | with_reducible rfl)) | (simp; done) | (simp; omega)) ?_)
   | refine c_cond rfl (fun hc => ?_) (fun hc => ?_)
   | refine c_condb rfl (fun hc => ?_) (fun hc => ?_)))
   | refine x_then ?_
   | refine x_then_ret ?_
   | refine x_then_exit ?_
   | refine x_block _ ?_
   | refine x_block_ret _ ?_
   | refine x_block_exit _ ?_
   | refine x_block_past (by decide) ?_
   | refine z_tailm ?_)
   | (refine z_isnil ?_; first
   | refine z_list ?_
   | refine z_mixed ?_
   | refine z_mono0 ?_
   | refine z_mono1 (by decide) fun g => ?_
   | refine z_mono2 (by decide) (by decide) fun g g' => ?_
   | refine z_mixedx ?_
   | refine z_quiet ?_)
   | (refine z_isop ?_; first
   | refine o_boxa rfl rfl (by decide) fun g => ?_
   | refine o_alloca (e := 80) (vs := tb 0 0) rfl (by kernel_rfl) (by decide) fun g => ?_
   | refine o_alloca (e := 83) (vs := op3 0 0 0) rfl (by kernel_rfl) (by decide) fun g => ?_
   | refine o_build0 (t := 83) (v := .agg (op3 0 0 0).toArray) (fun _ => by kernel_rfl) (by decide) ?_
   | refine o_build0 (t := 80) (v := .agg (tb 0 0).toArray) (fun _ => by kernel_rfl) (by decide) ?_
   | (refine z_isbin ?_; first
   | refine o_eqa cmp80 rfl rfl (tb_typed _ _) (tb_typed _ _) (by decide) ?_
   | (refine z_isb .add ?_; first
   | refine o_add rfl rfl (by omega) (by omega) (by decide) ?_
   | refine o_addw rfl rfl (by decide) ?_)
   | (refine z_isb .neq ?_; first
   | refine o_ne rfl rfl (by decide) ?_
   | refine o_bne tabOk rfl rfl rfl (by decide) ?_
   | refine o_pne tabOk rfl rfl (by decide) ?_)
   | (refine z_isb .lss ?_; first
   | refine o_lt rfl rfl (by decide) ?_)
   | (refine z_isb .gtr ?_; first
   | refine o_gt rfl rfl (by decide) ?_))
   | (refine z_isload ?_; first
   | (refine z_ld1 tabOk rfl rfl ?_; first
   | refine o_loadm tabOk rfl rfl rfl (by repeat' (first | exact List.mem_cons_self | apply List.mem_cons_of_mem)) (by first | exact tb_0 _ _ | exact tb_1 _ _ | exact op_0 _ _ _ | exact op_1 _ _ _ | exact op_2 _ _ _ | exact fl_r _ _ _ _ | exact fl_a _ _ _ _ | rfl) (by decide) ?_
   | refine o_loads tabOk (by first | assumption | exact Rds.cons _ (by assumption) | exact Rds.cons _ (Rds.cons _ (by assumption)) | exact own_rds 0 rfl | exact own_rds 1 rfl | exact own_rds 2 rfl) rfl rfl rfl (by first | exact tb_0 _ _ | exact tb_1 _ _ | exact op_0 _ _ _ | exact op_1 _ _ _ | exact op_2 _ _ _ | exact fl_r _ _ _ _ | exact fl_a _ _ _ _ | rfl) (by decide) ?_)
   | (refine z_ldw tabOk rfl rfl ?_; first
   | (refine o_loadwm tabOk rfl rfl rfl (by repeat' (first | exact List.mem_cons_self | apply List.mem_cons_of_mem)) (by first | exact tb_len _ _ | exact op_len _ _ _ | exact fl_len _ _ _ _ | (simp only [tb_len, op_len, fl_len]; done) | rfl) (by decide) ?_)))
   | (refine z_isindex ?_; first
   | refine o_ixv tabOk rfl rfl rfl rfl rfl (by omega) (by omega) (by first | exact tb_0 _ _ | exact tb_1 _ _ | exact op_0 _ _ _ | exact op_1 _ _ _ | exact op_2 _ _ _ | exact fl_r _ _ _ _ | exact fl_a _ _ _ _ | rfl) (by decide) ?_)
   | (refine z_iscall ?_; first
   | ((refine z_iscallf 55 ?_; refine o_fn rfl Try.func55 rfl rfl rfl (free_n) (by decide) ?_))
   | ((refine z_iscallf 56 ?_; refine o_fn rfl Try.func56 rfl rfl rfl (at_nil _) (by decide) ?_)))
   | refine o_move rfl (by decide) ?_
   | refine o_assign rfl (by decide) ?_
   | refine o_nil rfl (by decide) ?_
   | refine o_extract rfl rfl (by decide) ?_
   | refine o_not rfl (by decide) ?_
   | refine o_field0 tabOk rfl rfl rfl rfl rfl (by decide) ?_
   | refine o_field tabOk rfl rfl rfl rfl rfl (by decide) ?_
   | refine o_conv tabOk rfl rfl rfl (by decide) ?_))
set_option maxHeartbeats 800000 in
theorem fork_nil' : Pf Try.prog 41 [.pointer none, .agg (tb 0 0).toArray] (.agg (tb 0 0).toArray) := by
  intro w hw
  refine f_enter Try.func41 rfl Try.ntmps41 rfl hw ?_
  repeat' (first
   | (refine s_is ?_; first
   | (refine s_isagain ?_; first
   | exact c_again (n + 1) (by omega) (by omega) ⟨rfl, rfl, rfl, rfl, trivial⟩ (fun w h => h))
   | (refine s_isret ?_; first
   | exact p_r1 rfl (res_c tabOk rfl rfl rfl 0 rfl (tb_len _ _)))
   | (refine s_isw ?_; first
   | (refine s_isloop ?_; first
   | ((rename_i g3; refine c_loop (X := Nat) (fun n => n ≤ 8) (fun n => [(0, .pointer none), (3, .pointer (some ⟨g3, 0, none⟩)), (4, .pointer (some ⟨g, 0, none⟩)), (8, .int .i64 n)]) (fun n => [cells g 80 (tb 0 0), cells g3 80 (tb 0 0)]) (fun n => 8 - n) 0 (by omega) ⟨rfl, rfl, rfl, rfl, trivial⟩ (fun w h => h) (fun n hn => ?_))))
   | refine c_seq ?_
   | refine c_block ?_
   | refine c_region ?_
   | refine c_mixed mixed (by kernel_rfl) ?_
   | refine c_skip ?_
   | refine c_ret ?_
   | refine c_exit ?_
   | (refine s_iscond ?_; first
   | (refine c_true rfl (by first | with_reducible rfl | with_reducible assumption | ((with_reducible refine decide_eq_true ?_); first | with_reducible rfl | with_reducible assumption | omega)) ?_)
   | (refine c_false rfl (by first | with_reducible rfl | with_reducible assumption | ((with_reducible refine decide_eq_false ?_); first | with_reducible assumption | omega)) ?_)
   | (refine c_true rfl (by first | (simp only [Bool.not_eq_true', decide_eq_false_iff_not]; omega) | (with_reducible assumption) | (rw [decide_eq_false] <;> (first | omega | with_reducible rfl)) | (rw [decide_eq_true] <;> (first | omega | with_reducible rfl)) | (simp; done) | (simp; omega)) ?_)
   | (refine c_false rfl (by first | (simp only [Bool.not_eq_false', decide_eq_true_eq]; omega) | (with_reducible assumption) | (rw [decide_eq_false] <;> (first | omega | with_reducible rfl)) | (rw [decide_eq_true] <;> (first | omega | with_reducible rfl)) | (simp; done) | (simp; omega)) ?_)
   | refine c_cond rfl (fun hc => ?_) (fun hc => ?_)
   | refine c_condb rfl (fun hc => ?_) (fun hc => ?_)))
   | refine x_then ?_
   | refine x_then_ret ?_
   | refine x_then_exit ?_
   | refine x_block _ ?_
   | refine x_block_ret _ ?_
   | refine x_block_exit _ ?_
   | refine x_block_past (by decide) ?_
   | refine z_tailm ?_)
   | (refine z_isnil ?_; first
   | refine z_list ?_
   | refine z_mixed ?_
   | refine z_mono0 ?_
   | refine z_mono1 (by decide) fun g => ?_
   | refine z_mono2 (by decide) (by decide) fun g g' => ?_
   | refine z_mixedx ?_
   | refine z_quiet ?_)
   | (refine z_isop ?_; first
   | refine o_boxa rfl rfl (by decide) fun g => ?_
   | refine o_alloca (e := 80) (vs := tb 0 0) rfl (by kernel_rfl) (by decide) fun g => ?_
   | refine o_alloca (e := 83) (vs := op3 0 0 0) rfl (by kernel_rfl) (by decide) fun g => ?_
   | refine o_build0 (t := 83) (v := .agg (op3 0 0 0).toArray) (fun _ => by kernel_rfl) (by decide) ?_
   | refine o_build0 (t := 80) (v := .agg (tb 0 0).toArray) (fun _ => by kernel_rfl) (by decide) ?_
   | (refine z_isbin ?_; first
   | refine o_eqa cmp80 rfl rfl (tb_typed _ _) (tb_typed _ _) (by decide) ?_
   | (refine z_isb .add ?_; first
   | refine o_add rfl rfl (by omega) (by omega) (by decide) ?_
   | refine o_addw rfl rfl (by decide) ?_)
   | (refine z_isb .lss ?_; first
   | refine o_lt rfl rfl (by decide) ?_))
   | (refine z_isload ?_; first
   | (refine z_ld1 tabOk rfl rfl ?_; first
   | refine o_loadm tabOk rfl rfl rfl (by repeat' (first | exact List.mem_cons_self | apply List.mem_cons_of_mem)) (by first | exact tb_0 _ _ | exact tb_1 _ _ | exact op_0 _ _ _ | exact op_1 _ _ _ | exact op_2 _ _ _ | exact fl_r _ _ _ _ | exact fl_a _ _ _ _ | rfl) (by decide) ?_
   | refine o_loads tabOk (by first | assumption | exact Rds.cons _ (by assumption) | exact Rds.cons _ (Rds.cons _ (by assumption)) | exact own_rds 0 rfl | exact own_rds 1 rfl | exact own_rds 2 rfl) rfl rfl rfl (by first | exact tb_0 _ _ | exact tb_1 _ _ | exact op_0 _ _ _ | exact op_1 _ _ _ | exact op_2 _ _ _ | exact fl_r _ _ _ _ | exact fl_a _ _ _ _ | rfl) (by decide) ?_)
   | (refine z_ldw tabOk rfl rfl ?_; first
   | (refine o_loadwm tabOk rfl rfl rfl (by repeat' (first | exact List.mem_cons_self | apply List.mem_cons_of_mem)) (by first | exact tb_len _ _ | exact op_len _ _ _ | exact fl_len _ _ _ _ | (simp only [tb_len, op_len, fl_len]; done) | rfl) (by decide) ?_)))
   | (refine z_isstore ?_; first
   | (refine z_stw rfl ?_; first
   | ((refine z_sti 0 rfl rfl ?_; refine o_storeb0 rfl tabOk rfl rfl rfl (by first | exact tb_len _ _ | exact op_len _ _ _ | exact fl_len _ _ _ _ | (simp only [tb_len, op_len, fl_len]; done) | rfl) (by first | exact tb_one _ _ | exact op_one _ _ _ | exact fl_one _ _ _ _ | rfl) (by first | exact tb_len _ _ | exact op_len _ _ _ | exact fl_len _ _ _ _ | (simp only [tb_len, op_len, fl_len]; done) | rfl) ?_))
   | ((refine z_sti 1 rfl rfl ?_; refine o_storeb1 rfl tabOk rfl rfl rfl (by first | exact tb_len _ _ | exact op_len _ _ _ | exact fl_len _ _ _ _ | (simp only [tb_len, op_len, fl_len]; done) | rfl) (by first | exact tb_one _ _ | exact op_one _ _ _ | exact fl_one _ _ _ _ | rfl) (by first | exact tb_len _ _ | exact op_len _ _ _ | exact fl_len _ _ _ _ | (simp only [tb_len, op_len, fl_len]; done) | rfl) ?_))
   | ((refine z_sti 2 rfl rfl ?_; refine o_storeb2 rfl tabOk rfl rfl rfl (by first | exact tb_len _ _ | exact op_len _ _ _ | exact fl_len _ _ _ _ | (simp only [tb_len, op_len, fl_len]; done) | rfl) (by first | exact tb_one _ _ | exact op_one _ _ _ | exact fl_one _ _ _ _ | rfl) (by first | exact tb_len _ _ | exact op_len _ _ _ | exact fl_len _ _ _ _ | (simp only [tb_len, op_len, fl_len]; done) | rfl) ?_))
   | ((refine z_sti 3 rfl rfl ?_; refine o_storeb3 rfl tabOk rfl rfl rfl (by first | exact tb_len _ _ | exact op_len _ _ _ | exact fl_len _ _ _ _ | (simp only [tb_len, op_len, fl_len]; done) | rfl) (by first | exact tb_one _ _ | exact op_one _ _ _ | exact fl_one _ _ _ _ | rfl) (by first | exact tb_len _ _ | exact op_len _ _ _ | exact fl_len _ _ _ _ | (simp only [tb_len, op_len, fl_len]; done) | rfl) ?_))
   | ((refine z_sti 4 rfl rfl ?_; refine o_storeb4 rfl tabOk rfl rfl rfl (by first | exact tb_len _ _ | exact op_len _ _ _ | exact fl_len _ _ _ _ | (simp only [tb_len, op_len, fl_len]; done) | rfl) (by first | exact tb_one _ _ | exact op_one _ _ _ | exact fl_one _ _ _ _ | rfl) (by first | exact tb_len _ _ | exact op_len _ _ _ | exact fl_len _ _ _ _ | (simp only [tb_len, op_len, fl_len]; done) | rfl) ?_))
   | ((refine z_sti 5 rfl rfl ?_; refine o_storeb5 rfl tabOk rfl rfl rfl (by first | exact tb_len _ _ | exact op_len _ _ _ | exact fl_len _ _ _ _ | (simp only [tb_len, op_len, fl_len]; done) | rfl) (by first | exact tb_one _ _ | exact op_one _ _ _ | exact fl_one _ _ _ _ | rfl) (by first | exact tb_len _ _ | exact op_len _ _ _ | exact fl_len _ _ _ _ | (simp only [tb_len, op_len, fl_len]; done) | rfl) ?_))
   | ((refine z_sti 6 rfl rfl ?_; refine o_storeb6 rfl tabOk rfl rfl rfl (by first | exact tb_len _ _ | exact op_len _ _ _ | exact fl_len _ _ _ _ | (simp only [tb_len, op_len, fl_len]; done) | rfl) (by first | exact tb_one _ _ | exact op_one _ _ _ | exact fl_one _ _ _ _ | rfl) (by first | exact tb_len _ _ | exact op_len _ _ _ | exact fl_len _ _ _ _ | (simp only [tb_len, op_len, fl_len]; done) | rfl) ?_)))
   | (refine z_st1 rfl rfl ?_; first
   | refine o_store rfl tabOk rfl rfl rfl rfl rfl (by first | exact tb_0 _ _ | exact tb_1 _ _ | exact op_0 _ _ _ | exact op_1 _ _ _ | exact op_2 _ _ _ | exact fl_r _ _ _ _ | exact fl_a _ _ _ _ | rfl) (by first | rfl) ?_
   | ((refine z_sti 1 rfl rfl ?_; refine o_store1 rfl tabOk rfl rfl rfl rfl rfl (by first | exact tb_0 _ _ | exact tb_1 _ _ | exact op_0 _ _ _ | exact op_1 _ _ _ | exact op_2 _ _ _ | exact fl_r _ _ _ _ | exact fl_a _ _ _ _ | rfl) (by first | rfl) ?_))
   | ((refine z_sti 2 rfl rfl ?_; refine o_store2 rfl tabOk rfl rfl rfl rfl rfl (by first | exact tb_0 _ _ | exact tb_1 _ _ | exact op_0 _ _ _ | exact op_1 _ _ _ | exact op_2 _ _ _ | exact fl_r _ _ _ _ | exact fl_a _ _ _ _ | rfl) (by first | rfl) ?_))
   | ((refine z_sti 3 rfl rfl ?_; refine o_store3 rfl tabOk rfl rfl rfl rfl rfl (by first | exact tb_0 _ _ | exact tb_1 _ _ | exact op_0 _ _ _ | exact op_1 _ _ _ | exact op_2 _ _ _ | exact fl_r _ _ _ _ | exact fl_a _ _ _ _ | rfl) (by first | rfl) ?_))
   | ((refine z_sti 4 rfl rfl ?_; refine o_store4 rfl tabOk rfl rfl rfl rfl rfl (by first | exact tb_0 _ _ | exact tb_1 _ _ | exact op_0 _ _ _ | exact op_1 _ _ _ | exact op_2 _ _ _ | exact fl_r _ _ _ _ | exact fl_a _ _ _ _ | rfl) (by first | rfl) ?_))
   | ((refine z_sti 5 rfl rfl ?_; refine o_store5 rfl tabOk rfl rfl rfl rfl rfl (by first | exact tb_0 _ _ | exact tb_1 _ _ | exact op_0 _ _ _ | exact op_1 _ _ _ | exact op_2 _ _ _ | exact fl_r _ _ _ _ | exact fl_a _ _ _ _ | rfl) (by first | rfl) ?_))
   | ((refine z_sti 6 rfl rfl ?_; refine o_store6 rfl tabOk rfl rfl rfl rfl rfl (by first | exact tb_0 _ _ | exact tb_1 _ _ | exact op_0 _ _ _ | exact op_1 _ _ _ | exact op_2 _ _ _ | exact fl_r _ _ _ _ | exact fl_a _ _ _ _ | rfl) (by first | rfl) ?_))))
   | (refine z_iscall ?_; first
   | ((refine z_iscallf 55 ?_; refine o_fn rfl Try.func55 rfl rfl rfl (free_n) (by decide) ?_))
   | ((refine z_iscallf 56 ?_; refine o_fn rfl Try.func56 rfl rfl rfl (at_nil _) (by decide) ?_)))
   | (refine z_isix ?_; first
   | refine o_index0 tabOk rfl rfl rfl rfl (by omega) (by omega) (by decide) ?_
   | refine o_index1 tabOk rfl rfl rfl rfl (by omega) (by omega) (by decide) ?_
   | refine o_indexsk1 tabOk rfl rfl rfl rfl (by omega) (by omega) (by decide) ?_
   | refine o_indexsk tabOk rfl rfl rfl rfl (by omega) (by omega) (by decide) ?_
   | refine o_indexs1 tabOk (by first | assumption) rfl rfl rfl rfl (by omega) (by omega) (by decide) ?_)
   | refine o_move rfl (by decide) ?_
   | refine o_assign rfl (by decide) ?_
   | refine o_nil rfl (by decide) ?_
   | refine o_extract rfl rfl (by decide) ?_
   | refine o_not rfl (by decide) ?_
   | refine o_field0 tabOk rfl rfl rfl rfl rfl (by decide) ?_
   | refine o_field tabOk rfl rfl rfl rfl rfl (by decide) ?_
   | refine o_conv tabOk rfl rfl rfl (by decide) ?_))
theorem close_nil (i : Int) : Pf Try.prog 39 [.pointer none, .agg (tb 0 0).toArray, .int .i64 i] (.tuple #[.agg (tb 0 0).toArray, .agg (op3 0 0 0).toArray, .bool false, .int .i64 10]) := by
  intro w hw
  refine f_enter Try.func39 rfl Try.ntmps39 rfl hw ?_
  repeat' (first
   | (refine s_is ?_; first
   | (refine s_isret ?_; first
   | exact f_r4 rfl (res_c tabOk rfl rfl rfl 1 rfl (tb_len _ _)) (res_c tabOk rfl rfl rfl 0 rfl (op_len _ _ _)) (res_t rfl) (res_t rfl) () trivial rfl (fun w h => h.none))
   | (refine s_isw ?_; first
   | refine c_seq ?_
   | refine c_block ?_
   | refine c_region ?_
   | refine c_mixed mixed (by kernel_rfl) ?_
   | refine c_skip ?_
   | refine c_ret ?_
   | refine c_exit ?_
   | (refine s_iscond ?_; first
   | (refine c_true rfl (by first | with_reducible rfl | with_reducible assumption | ((with_reducible refine decide_eq_true ?_); first | with_reducible rfl | with_reducible assumption | omega)) ?_)
   | (refine c_false rfl (by first | with_reducible rfl | with_reducible assumption | ((with_reducible refine decide_eq_false ?_); first | with_reducible assumption | omega)) ?_)
   | (refine c_true rfl (by first | (simp only [Bool.not_eq_true', decide_eq_false_iff_not]; omega) | (with_reducible assumption) | (rw [decide_eq_false] <;> (first | omega | with_reducible rfl)) | (rw [decide_eq_true] <;> (first | omega | with_reducible rfl)) | (simp; done) | (simp; omega)) ?_)
   | (refine c_false rfl (by first | (simp only [Bool.not_eq_false', decide_eq_true_eq]; omega) | (with_reducible assumption) | (rw [decide_eq_false] <;> (first | omega | with_reducible rfl)) | (rw [decide_eq_true] <;> (first | omega | with_reducible rfl)) | (simp; done) | (simp; omega)) ?_)
   | refine c_cond rfl (fun hc => ?_) (fun hc => ?_)
   | refine c_condb rfl (fun hc => ?_) (fun hc => ?_)))
   | refine x_then ?_
   | refine x_then_ret ?_
   | refine x_then_exit ?_
   | refine x_block _ ?_
   | refine x_block_ret _ ?_
   | refine x_block_exit _ ?_
   | refine x_block_past (by decide) ?_
   | refine z_tailm ?_)
   | (refine z_isnil ?_; first
   | refine z_list ?_
   | refine z_mixed ?_
   | refine z_mono0 ?_
   | refine z_mono1 (by decide) fun g => ?_
   | refine z_mono2 (by decide) (by decide) fun g g' => ?_
   | refine z_mixedx ?_
   | refine z_quiet ?_)
   | (refine z_isop ?_; first
   | refine o_boxa rfl rfl (by decide) fun g => ?_
   | refine o_alloca (e := 80) (vs := tb 0 0) rfl (by kernel_rfl) (by decide) fun g => ?_
   | refine o_alloca (e := 83) (vs := op3 0 0 0) rfl (by kernel_rfl) (by decide) fun g => ?_
   | refine o_build0 (t := 83) (v := .agg (op3 0 0 0).toArray) (fun _ => by kernel_rfl) (by decide) ?_
   | refine o_build0 (t := 80) (v := .agg (tb 0 0).toArray) (fun _ => by kernel_rfl) (by decide) ?_
   | (refine z_isbin ?_; first
   | refine o_eqa cmp80 rfl rfl (tb_typed _ _) (tb_typed _ _) (by decide) ?_
   | (refine z_isb .sub ?_; first
   | refine o_sub rfl rfl (by omega) (by omega) (by decide) ?_
   | refine o_subw rfl rfl (by decide) ?_)
   | (refine z_isb .gtr ?_; first
   | refine o_gt rfl rfl (by decide) ?_))
   | (refine z_isload ?_; first
   | (refine z_ld1 tabOk rfl rfl ?_; first
   | refine o_loadm tabOk rfl rfl rfl (by repeat' (first | exact List.mem_cons_self | apply List.mem_cons_of_mem)) (by first | exact tb_0 _ _ | exact tb_1 _ _ | exact op_0 _ _ _ | exact op_1 _ _ _ | exact op_2 _ _ _ | exact fl_r _ _ _ _ | exact fl_a _ _ _ _ | rfl) (by decide) ?_
   | refine o_loads tabOk (by first | assumption | exact Rds.cons _ (by assumption) | exact Rds.cons _ (Rds.cons _ (by assumption)) | exact own_rds 0 rfl | exact own_rds 1 rfl | exact own_rds 2 rfl) rfl rfl rfl (by first | exact tb_0 _ _ | exact tb_1 _ _ | exact op_0 _ _ _ | exact op_1 _ _ _ | exact op_2 _ _ _ | exact fl_r _ _ _ _ | exact fl_a _ _ _ _ | rfl) (by decide) ?_)
   | (refine z_ldw tabOk rfl rfl ?_; first
   | (refine o_loadwm tabOk rfl rfl rfl (by repeat' (first | exact List.mem_cons_self | apply List.mem_cons_of_mem)) (by first | exact tb_len _ _ | exact op_len _ _ _ | exact fl_len _ _ _ _ | (simp only [tb_len, op_len, fl_len]; done) | rfl) (by decide) ?_)))
   | (refine z_isstore ?_; first
   | (refine z_stw rfl ?_; first
   | ((refine z_sti 0 rfl rfl ?_; refine o_storeb0 rfl tabOk rfl rfl rfl (by first | exact tb_len _ _ | exact op_len _ _ _ | exact fl_len _ _ _ _ | (simp only [tb_len, op_len, fl_len]; done) | rfl) (by first | exact tb_one _ _ | exact op_one _ _ _ | exact fl_one _ _ _ _ | rfl) (by first | exact tb_len _ _ | exact op_len _ _ _ | exact fl_len _ _ _ _ | (simp only [tb_len, op_len, fl_len]; done) | rfl) ?_))
   | ((refine z_sti 1 rfl rfl ?_; refine o_storeb1 rfl tabOk rfl rfl rfl (by first | exact tb_len _ _ | exact op_len _ _ _ | exact fl_len _ _ _ _ | (simp only [tb_len, op_len, fl_len]; done) | rfl) (by first | exact tb_one _ _ | exact op_one _ _ _ | exact fl_one _ _ _ _ | rfl) (by first | exact tb_len _ _ | exact op_len _ _ _ | exact fl_len _ _ _ _ | (simp only [tb_len, op_len, fl_len]; done) | rfl) ?_))
   | ((refine z_sti 2 rfl rfl ?_; refine o_storeb2 rfl tabOk rfl rfl rfl (by first | exact tb_len _ _ | exact op_len _ _ _ | exact fl_len _ _ _ _ | (simp only [tb_len, op_len, fl_len]; done) | rfl) (by first | exact tb_one _ _ | exact op_one _ _ _ | exact fl_one _ _ _ _ | rfl) (by first | exact tb_len _ _ | exact op_len _ _ _ | exact fl_len _ _ _ _ | (simp only [tb_len, op_len, fl_len]; done) | rfl) ?_))
   | ((refine z_sti 3 rfl rfl ?_; refine o_storeb3 rfl tabOk rfl rfl rfl (by first | exact tb_len _ _ | exact op_len _ _ _ | exact fl_len _ _ _ _ | (simp only [tb_len, op_len, fl_len]; done) | rfl) (by first | exact tb_one _ _ | exact op_one _ _ _ | exact fl_one _ _ _ _ | rfl) (by first | exact tb_len _ _ | exact op_len _ _ _ | exact fl_len _ _ _ _ | (simp only [tb_len, op_len, fl_len]; done) | rfl) ?_))
   | ((refine z_sti 4 rfl rfl ?_; refine o_storeb4 rfl tabOk rfl rfl rfl (by first | exact tb_len _ _ | exact op_len _ _ _ | exact fl_len _ _ _ _ | (simp only [tb_len, op_len, fl_len]; done) | rfl) (by first | exact tb_one _ _ | exact op_one _ _ _ | exact fl_one _ _ _ _ | rfl) (by first | exact tb_len _ _ | exact op_len _ _ _ | exact fl_len _ _ _ _ | (simp only [tb_len, op_len, fl_len]; done) | rfl) ?_))
   | ((refine z_sti 5 rfl rfl ?_; refine o_storeb5 rfl tabOk rfl rfl rfl (by first | exact tb_len _ _ | exact op_len _ _ _ | exact fl_len _ _ _ _ | (simp only [tb_len, op_len, fl_len]; done) | rfl) (by first | exact tb_one _ _ | exact op_one _ _ _ | exact fl_one _ _ _ _ | rfl) (by first | exact tb_len _ _ | exact op_len _ _ _ | exact fl_len _ _ _ _ | (simp only [tb_len, op_len, fl_len]; done) | rfl) ?_))
   | ((refine z_sti 6 rfl rfl ?_; refine o_storeb6 rfl tabOk rfl rfl rfl (by first | exact tb_len _ _ | exact op_len _ _ _ | exact fl_len _ _ _ _ | (simp only [tb_len, op_len, fl_len]; done) | rfl) (by first | exact tb_one _ _ | exact op_one _ _ _ | exact fl_one _ _ _ _ | rfl) (by first | exact tb_len _ _ | exact op_len _ _ _ | exact fl_len _ _ _ _ | (simp only [tb_len, op_len, fl_len]; done) | rfl) ?_)))
   | (refine z_st1 rfl rfl ?_; first
   | refine o_store rfl tabOk rfl rfl rfl rfl rfl (by first | exact tb_0 _ _ | exact tb_1 _ _ | exact op_0 _ _ _ | exact op_1 _ _ _ | exact op_2 _ _ _ | exact fl_r _ _ _ _ | exact fl_a _ _ _ _ | rfl) (by first | rfl) ?_
   | ((refine z_sti 1 rfl rfl ?_; refine o_store1 rfl tabOk rfl rfl rfl rfl rfl (by first | exact tb_0 _ _ | exact tb_1 _ _ | exact op_0 _ _ _ | exact op_1 _ _ _ | exact op_2 _ _ _ | exact fl_r _ _ _ _ | exact fl_a _ _ _ _ | rfl) (by first | rfl) ?_))
   | ((refine z_sti 2 rfl rfl ?_; refine o_store2 rfl tabOk rfl rfl rfl rfl rfl (by first | exact tb_0 _ _ | exact tb_1 _ _ | exact op_0 _ _ _ | exact op_1 _ _ _ | exact op_2 _ _ _ | exact fl_r _ _ _ _ | exact fl_a _ _ _ _ | rfl) (by first | rfl) ?_))
   | ((refine z_sti 3 rfl rfl ?_; refine o_store3 rfl tabOk rfl rfl rfl rfl rfl (by first | exact tb_0 _ _ | exact tb_1 _ _ | exact op_0 _ _ _ | exact op_1 _ _ _ | exact op_2 _ _ _ | exact fl_r _ _ _ _ | exact fl_a _ _ _ _ | rfl) (by first | rfl) ?_))
   | ((refine z_sti 4 rfl rfl ?_; refine o_store4 rfl tabOk rfl rfl rfl rfl rfl (by first | exact tb_0 _ _ | exact tb_1 _ _ | exact op_0 _ _ _ | exact op_1 _ _ _ | exact op_2 _ _ _ | exact fl_r _ _ _ _ | exact fl_a _ _ _ _ | rfl) (by first | rfl) ?_))
   | ((refine z_sti 5 rfl rfl ?_; refine o_store5 rfl tabOk rfl rfl rfl rfl rfl (by first | exact tb_0 _ _ | exact tb_1 _ _ | exact op_0 _ _ _ | exact op_1 _ _ _ | exact op_2 _ _ _ | exact fl_r _ _ _ _ | exact fl_a _ _ _ _ | rfl) (by first | rfl) ?_))
   | ((refine z_sti 6 rfl rfl ?_; refine o_store6 rfl tabOk rfl rfl rfl rfl rfl (by first | exact tb_0 _ _ | exact tb_1 _ _ | exact op_0 _ _ _ | exact op_1 _ _ _ | exact op_2 _ _ _ | exact fl_r _ _ _ _ | exact fl_a _ _ _ _ | rfl) (by first | rfl) ?_))))
   | (refine z_iscall ?_; first
   | ((refine z_iscallf 55 ?_; refine o_fn rfl Try.func55 rfl rfl rfl (free_n) (by decide) ?_))
   | ((refine z_iscallf 56 ?_; refine o_fn rfl Try.func56 rfl rfl rfl (at_nil _) (by decide) ?_)))
   | (refine z_isix ?_; first
   | refine o_index0 tabOk rfl rfl rfl rfl (by omega) (by omega) (by decide) ?_
   | refine o_index1 tabOk rfl rfl rfl rfl (by omega) (by omega) (by decide) ?_
   | refine o_indexsk1 tabOk rfl rfl rfl rfl (by omega) (by omega) (by decide) ?_
   | refine o_indexsk tabOk rfl rfl rfl rfl (by omega) (by omega) (by decide) ?_
   | refine o_indexs1 tabOk (by first | assumption) rfl rfl rfl rfl (by omega) (by omega) (by decide) ?_)
   | refine o_move rfl (by decide) ?_
   | refine o_assign rfl (by decide) ?_
   | refine o_nil rfl (by decide) ?_
   | refine o_extract rfl rfl (by decide) ?_
   | refine o_not rfl (by decide) ?_
   | refine o_field0 tabOk rfl rfl rfl rfl rfl (by decide) ?_
   | refine o_field tabOk rfl rfl rfl rfl rfl (by decide) ?_
   | refine o_conv tabOk rfl rfl rfl (by decide) ?_))
theorem call_nil : Pf Try.prog 46 [.pointer none, .agg (tb 0 0).toArray] (.slice none 0 0) := by
  intro w hw
  refine f_enter Try.func46 rfl Try.ntmps46 rfl hw ?_
  repeat' (first
   | (refine s_is ?_; first
   | (refine s_isagain ?_; first
   | exact c_again (n + 1) (by omega) (by omega) ⟨rfl, rfl, rfl, rfl, trivial⟩ (fun w h => ((h.sel 3 [2, 0, 1] (by decide)).mask [true, false, false])))
   | (refine s_isret ?_; first
   | exact p_r1 rfl (res_t rfl))
   | (refine s_isw ?_; first
   | (refine s_isloop ?_; first
   | (refine c_loop (X := Nat) (fun n => n ≤ 8) (fun n => [(0, .pointer none), (3, .pointer (some ⟨g, 0, none⟩)), (5, .slice none 0 0), (11, .int .i64 n)]) (fun n => [cells g 80 (tb 0 0)]) (fun n => 8 - n) 0 (by omega) ⟨rfl, rfl, rfl, rfl, trivial⟩ (fun w h => h) (fun n hn => ?_)))
   | refine c_seq ?_
   | refine c_block ?_
   | refine c_region ?_
   | refine c_mixed mixed (by kernel_rfl) ?_
   | refine c_skip ?_
   | refine c_ret ?_
   | refine c_exit ?_
   | (refine s_iscond ?_; first
   | (refine c_true rfl (by first | with_reducible rfl | with_reducible assumption | ((with_reducible refine decide_eq_true ?_); first | with_reducible rfl | with_reducible assumption | omega)) ?_)
   | (refine c_false rfl (by first | with_reducible rfl | with_reducible assumption | ((with_reducible refine decide_eq_false ?_); first | with_reducible assumption | omega)) ?_)
   | (refine c_true rfl (by first | (simp only [Bool.not_eq_true', decide_eq_false_iff_not]; omega) | (with_reducible assumption) | (rw [decide_eq_false] <;> (first | omega | with_reducible rfl)) | (rw [decide_eq_true] <;> (first | omega | with_reducible rfl)) | (simp; done) | (simp; omega)) ?_)
   | (refine c_false rfl (by first | (simp only [Bool.not_eq_false', decide_eq_true_eq]; omega) | (with_reducible assumption) | (rw [decide_eq_false] <;> (first | omega | with_reducible rfl)) | (rw [decide_eq_true] <;> (first | omega | with_reducible rfl)) | (simp; done) | (simp; omega)) ?_)
   | refine c_cond rfl (fun hc => ?_) (fun hc => ?_)
   | refine c_condb rfl (fun hc => ?_) (fun hc => ?_)))
   | refine x_then ?_
   | refine x_then_ret ?_
   | refine x_then_exit ?_
   | refine x_block _ ?_
   | refine x_block_ret _ ?_
   | refine x_block_exit _ ?_
   | refine x_block_past (by decide) ?_
   | refine z_tailm ?_)
   | (refine z_isg1 ?_; first
   | refine z_skipu (by decide) rfl rfl ?_
   | (refine z_want1 rfl rfl (by first | with_reducible rfl | with_reducible assumption | ((with_reducible refine decide_eq_true ?_); first | with_reducible rfl | with_reducible assumption | omega)) ?_)
   | (refine z_skip1 (by decide) rfl rfl (by first | with_reducible rfl | with_reducible assumption | ((with_reducible refine decide_eq_false ?_); first | with_reducible assumption | omega)) ?_)
   | (refine z_want1 rfl rfl (by first | (simp only [Bool.not_eq_true', decide_eq_false_iff_not]; omega) | (with_reducible assumption) | (rw [decide_eq_false] <;> (first | omega | with_reducible rfl)) | (rw [decide_eq_true] <;> (first | omega | with_reducible rfl)) | (simp; done) | (simp; omega)) ?_)
   | (refine z_skip1 (by decide) rfl rfl (by first | (simp only [Bool.not_eq_false', decide_eq_true_eq]; omega) | (with_reducible assumption) | (rw [decide_eq_false] <;> (first | omega | with_reducible rfl)) | (rw [decide_eq_true] <;> (first | omega | with_reducible rfl)) | (simp; done) | (simp; omega)) ?_)
   | refine z_guard1 (by decide) rfl rfl (fun hc => ?_) (fun hc => ?_)
   | refine z_guardb (by decide) rfl rfl (fun hc => ?_) (fun hc => ?_))
   | (refine z_isnil ?_; first
   | refine z_list ?_
   | refine z_mixed ?_
   | refine z_mono0 ?_
   | refine z_mono1 (by decide) fun g => ?_
   | refine z_mono2 (by decide) (by decide) fun g g' => ?_
   | refine z_mixedx ?_
   | refine z_quiet ?_)
   | (refine z_isop ?_; first
   | refine o_boxa rfl rfl (by decide) fun g => ?_
   | refine o_alloca (e := 80) (vs := tb 0 0) rfl (by kernel_rfl) (by decide) fun g => ?_
   | refine o_alloca (e := 83) (vs := op3 0 0 0) rfl (by kernel_rfl) (by decide) fun g => ?_
   | refine o_build0 (t := 83) (v := .agg (op3 0 0 0).toArray) (fun _ => by kernel_rfl) (by decide) ?_
   | refine o_build0 (t := 80) (v := .agg (tb 0 0).toArray) (fun _ => by kernel_rfl) (by decide) ?_
   | (refine z_isbin ?_; first
   | refine o_eqa cmp80 rfl rfl (tb_typed _ _) (tb_typed _ _) (by decide) ?_
   | (refine z_isb .add ?_; first
   | refine o_add rfl rfl (by omega) (by omega) (by decide) ?_
   | refine o_addw rfl rfl (by decide) ?_)
   | (refine z_isb .eql ?_; first
   | refine o_eq rfl rfl (by decide) ?_
   | refine o_beq tabOk rfl rfl rfl (by decide) ?_
   | refine o_peq tabOk rfl rfl (by decide) ?_)
   | (refine z_isb .lss ?_; first
   | refine o_lt rfl rfl (by decide) ?_))
   | (refine z_isload ?_; first
   | (refine z_ld1 tabOk rfl rfl ?_; first
   | refine o_loadm tabOk rfl rfl rfl (by repeat' (first | exact List.mem_cons_self | apply List.mem_cons_of_mem)) (by first | exact tb_0 _ _ | exact tb_1 _ _ | exact op_0 _ _ _ | exact op_1 _ _ _ | exact op_2 _ _ _ | exact fl_r _ _ _ _ | exact fl_a _ _ _ _ | rfl) (by decide) ?_
   | refine o_loads tabOk (by first | assumption | exact Rds.cons _ (by assumption) | exact Rds.cons _ (Rds.cons _ (by assumption)) | exact own_rds 0 rfl | exact own_rds 1 rfl | exact own_rds 2 rfl) rfl rfl rfl (by first | exact tb_0 _ _ | exact tb_1 _ _ | exact op_0 _ _ _ | exact op_1 _ _ _ | exact op_2 _ _ _ | exact fl_r _ _ _ _ | exact fl_a _ _ _ _ | rfl) (by decide) ?_)
   | (refine z_ldw tabOk rfl rfl ?_; first
   | (refine o_loadwm tabOk rfl rfl rfl (by repeat' (first | exact List.mem_cons_self | apply List.mem_cons_of_mem)) (by first | exact tb_len _ _ | exact op_len _ _ _ | exact fl_len _ _ _ _ | (simp only [tb_len, op_len, fl_len]; done) | rfl) (by decide) ?_)))
   | (refine z_isstore ?_; first
   | (refine z_stw rfl ?_; first
   | ((refine z_sti 0 rfl rfl ?_; refine o_storeb0 rfl tabOk rfl rfl rfl (by first | exact tb_len _ _ | exact op_len _ _ _ | exact fl_len _ _ _ _ | (simp only [tb_len, op_len, fl_len]; done) | rfl) (by first | exact tb_one _ _ | exact op_one _ _ _ | exact fl_one _ _ _ _ | rfl) (by first | exact tb_len _ _ | exact op_len _ _ _ | exact fl_len _ _ _ _ | (simp only [tb_len, op_len, fl_len]; done) | rfl) ?_))
   | ((refine z_sti 1 rfl rfl ?_; refine o_storeb1 rfl tabOk rfl rfl rfl (by first | exact tb_len _ _ | exact op_len _ _ _ | exact fl_len _ _ _ _ | (simp only [tb_len, op_len, fl_len]; done) | rfl) (by first | exact tb_one _ _ | exact op_one _ _ _ | exact fl_one _ _ _ _ | rfl) (by first | exact tb_len _ _ | exact op_len _ _ _ | exact fl_len _ _ _ _ | (simp only [tb_len, op_len, fl_len]; done) | rfl) ?_))
   | ((refine z_sti 2 rfl rfl ?_; refine o_storeb2 rfl tabOk rfl rfl rfl (by first | exact tb_len _ _ | exact op_len _ _ _ | exact fl_len _ _ _ _ | (simp only [tb_len, op_len, fl_len]; done) | rfl) (by first | exact tb_one _ _ | exact op_one _ _ _ | exact fl_one _ _ _ _ | rfl) (by first | exact tb_len _ _ | exact op_len _ _ _ | exact fl_len _ _ _ _ | (simp only [tb_len, op_len, fl_len]; done) | rfl) ?_))
   | ((refine z_sti 3 rfl rfl ?_; refine o_storeb3 rfl tabOk rfl rfl rfl (by first | exact tb_len _ _ | exact op_len _ _ _ | exact fl_len _ _ _ _ | (simp only [tb_len, op_len, fl_len]; done) | rfl) (by first | exact tb_one _ _ | exact op_one _ _ _ | exact fl_one _ _ _ _ | rfl) (by first | exact tb_len _ _ | exact op_len _ _ _ | exact fl_len _ _ _ _ | (simp only [tb_len, op_len, fl_len]; done) | rfl) ?_))
   | ((refine z_sti 4 rfl rfl ?_; refine o_storeb4 rfl tabOk rfl rfl rfl (by first | exact tb_len _ _ | exact op_len _ _ _ | exact fl_len _ _ _ _ | (simp only [tb_len, op_len, fl_len]; done) | rfl) (by first | exact tb_one _ _ | exact op_one _ _ _ | exact fl_one _ _ _ _ | rfl) (by first | exact tb_len _ _ | exact op_len _ _ _ | exact fl_len _ _ _ _ | (simp only [tb_len, op_len, fl_len]; done) | rfl) ?_))
   | ((refine z_sti 5 rfl rfl ?_; refine o_storeb5 rfl tabOk rfl rfl rfl (by first | exact tb_len _ _ | exact op_len _ _ _ | exact fl_len _ _ _ _ | (simp only [tb_len, op_len, fl_len]; done) | rfl) (by first | exact tb_one _ _ | exact op_one _ _ _ | exact fl_one _ _ _ _ | rfl) (by first | exact tb_len _ _ | exact op_len _ _ _ | exact fl_len _ _ _ _ | (simp only [tb_len, op_len, fl_len]; done) | rfl) ?_))
   | ((refine z_sti 6 rfl rfl ?_; refine o_storeb6 rfl tabOk rfl rfl rfl (by first | exact tb_len _ _ | exact op_len _ _ _ | exact fl_len _ _ _ _ | (simp only [tb_len, op_len, fl_len]; done) | rfl) (by first | exact tb_one _ _ | exact op_one _ _ _ | exact fl_one _ _ _ _ | rfl) (by first | exact tb_len _ _ | exact op_len _ _ _ | exact fl_len _ _ _ _ | (simp only [tb_len, op_len, fl_len]; done) | rfl) ?_)))
   | (refine z_st1 rfl rfl ?_; first
   | refine o_store rfl tabOk rfl rfl rfl rfl rfl (by first | exact tb_0 _ _ | exact tb_1 _ _ | exact op_0 _ _ _ | exact op_1 _ _ _ | exact op_2 _ _ _ | exact fl_r _ _ _ _ | exact fl_a _ _ _ _ | rfl) (by first | rfl) ?_
   | ((refine z_sti 1 rfl rfl ?_; refine o_store1 rfl tabOk rfl rfl rfl rfl rfl (by first | exact tb_0 _ _ | exact tb_1 _ _ | exact op_0 _ _ _ | exact op_1 _ _ _ | exact op_2 _ _ _ | exact fl_r _ _ _ _ | exact fl_a _ _ _ _ | rfl) (by first | rfl) ?_))
   | ((refine z_sti 2 rfl rfl ?_; refine o_store2 rfl tabOk rfl rfl rfl rfl rfl (by first | exact tb_0 _ _ | exact tb_1 _ _ | exact op_0 _ _ _ | exact op_1 _ _ _ | exact op_2 _ _ _ | exact fl_r _ _ _ _ | exact fl_a _ _ _ _ | rfl) (by first | rfl) ?_))
   | ((refine z_sti 3 rfl rfl ?_; refine o_store3 rfl tabOk rfl rfl rfl rfl rfl (by first | exact tb_0 _ _ | exact tb_1 _ _ | exact op_0 _ _ _ | exact op_1 _ _ _ | exact op_2 _ _ _ | exact fl_r _ _ _ _ | exact fl_a _ _ _ _ | rfl) (by first | rfl) ?_))
   | ((refine z_sti 4 rfl rfl ?_; refine o_store4 rfl tabOk rfl rfl rfl rfl rfl (by first | exact tb_0 _ _ | exact tb_1 _ _ | exact op_0 _ _ _ | exact op_1 _ _ _ | exact op_2 _ _ _ | exact fl_r _ _ _ _ | exact fl_a _ _ _ _ | rfl) (by first | rfl) ?_))
   | ((refine z_sti 5 rfl rfl ?_; refine o_store5 rfl tabOk rfl rfl rfl rfl rfl (by first | exact tb_0 _ _ | exact tb_1 _ _ | exact op_0 _ _ _ | exact op_1 _ _ _ | exact op_2 _ _ _ | exact fl_r _ _ _ _ | exact fl_a _ _ _ _ | rfl) (by first | rfl) ?_))
   | ((refine z_sti 6 rfl rfl ?_; refine o_store6 rfl tabOk rfl rfl rfl rfl rfl (by first | exact tb_0 _ _ | exact tb_1 _ _ | exact op_0 _ _ _ | exact op_1 _ _ _ | exact op_2 _ _ _ | exact fl_r _ _ _ _ | exact fl_a _ _ _ _ | rfl) (by first | rfl) ?_))))
   | (refine z_ismakes ?_; first
   | refine o_make1 rfl tabOk zeroOk rfl rfl rfl rfl rfl (by decide) fun g => ?_)
   | (refine z_iscall ?_; first
   | ((refine z_iscallf 55 ?_; refine o_fn rfl Try.func55 rfl rfl rfl (free_n) (by decide) ?_))
   | ((refine z_iscallf 56 ?_; refine o_fn rfl Try.func56 rfl rfl rfl (at_nil _) (by decide) ?_))
   | ((refine z_iscallf 39 ?_; refine o_fn rfl Try.func39 rfl rfl rfl (close_nil _) (by decide) ?_)))
   | (refine z_ispick ?_; first
   | (refine o_pick1 rfl (by first | with_reducible rfl | with_reducible assumption | ((with_reducible refine decide_eq_true ?_); first | with_reducible rfl | with_reducible assumption | omega)) rfl (by decide) ?_)
   | (refine o_pick0 rfl (by first | with_reducible rfl | with_reducible assumption | ((with_reducible refine decide_eq_false ?_); first | with_reducible assumption | omega)) rfl (by decide) ?_)
   | (refine o_pick1 rfl (by first | (simp only [Bool.not_eq_true', decide_eq_false_iff_not]; omega) | (with_reducible assumption) | (rw [decide_eq_false] <;> (first | omega | with_reducible rfl)) | (rw [decide_eq_true] <;> (first | omega | with_reducible rfl)) | (simp; done) | (simp; omega)) rfl (by decide) ?_)
   | (refine o_pick0 rfl (by first | (simp only [Bool.not_eq_false', decide_eq_true_eq]; omega) | (with_reducible assumption) | (rw [decide_eq_false] <;> (first | omega | with_reducible rfl)) | (rw [decide_eq_true] <;> (first | omega | with_reducible rfl)) | (simp; done) | (simp; omega)) rfl (by decide) ?_))
   | (refine z_isbi ?_; first
   | refine o_len tabOk rfl rfl (by decide) ?_
   | refine o_min rfl rfl (by decide) ?_
   | refine o_max rfl rfl (by decide) ?_
   | (refine o_append0 rfl tabOk zeroOk rfl rfl rfl rfl rfl rfl (by first | assumption | exact Rds.cons _ (by assumption) | exact Rds.cons _ (Rds.cons _ (by assumption)) | exact own_rds 0 rfl | exact own_rds 1 rfl | exact own_rds 2 rfl) (by first | rfl | (simp; done)) (by first | rfl | (simp; done)) (by omega) (by omega) (by decide) fun A' c' => ?_)
   | (refine o_append rfl tabOk zeroOk rfl rfl rfl rfl rfl rfl (by first | assumption | exact Rds.cons _ (by assumption) | exact Rds.cons _ (Rds.cons _ (by assumption)) | exact own_rds 0 rfl | exact own_rds 1 rfl | exact own_rds 2 rfl) (by first | rfl | (simp; done)) (by first | rfl | (simp; done)) (by omega) (by omega) (by decide) fun A' c' => ?_)
   | (refine z_front rfl 1 rfl ?_; refine o_append rfl tabOk zeroOk rfl rfl rfl rfl rfl rfl (by first | assumption | exact Rds.cons _ (by assumption) | exact Rds.cons _ (Rds.cons _ (by assumption)) | exact own_rds 0 rfl | exact own_rds 1 rfl | exact own_rds 2 rfl) (by first | rfl | (simp; done)) (by first | rfl | (simp; done)) (by omega) (by omega) (by decide) fun A' c' => ?_)
   | (refine z_front rfl 2 rfl ?_; refine o_append rfl tabOk zeroOk rfl rfl rfl rfl rfl rfl (by first | assumption | exact Rds.cons _ (by assumption) | exact Rds.cons _ (Rds.cons _ (by assumption)) | exact own_rds 0 rfl | exact own_rds 1 rfl | exact own_rds 2 rfl) (by first | rfl | (simp; done)) (by first | rfl | (simp; done)) (by omega) (by omega) (by decide) fun A' c' => ?_)
   | (refine z_front rfl 3 rfl ?_; refine o_append rfl tabOk zeroOk rfl rfl rfl rfl rfl rfl (by first | assumption | exact Rds.cons _ (by assumption) | exact Rds.cons _ (Rds.cons _ (by assumption)) | exact own_rds 0 rfl | exact own_rds 1 rfl | exact own_rds 2 rfl) (by first | rfl | (simp; done)) (by first | rfl | (simp; done)) (by omega) (by omega) (by decide) fun A' c' => ?_)
   | (refine z_front rfl 4 rfl ?_; refine o_append rfl tabOk zeroOk rfl rfl rfl rfl rfl rfl (by first | assumption | exact Rds.cons _ (by assumption) | exact Rds.cons _ (Rds.cons _ (by assumption)) | exact own_rds 0 rfl | exact own_rds 1 rfl | exact own_rds 2 rfl) (by first | rfl | (simp; done)) (by first | rfl | (simp; done)) (by omega) (by omega) (by decide) fun A' c' => ?_)
   | (refine z_front rfl 5 rfl ?_; refine o_append rfl tabOk zeroOk rfl rfl rfl rfl rfl rfl (by first | assumption | exact Rds.cons _ (by assumption) | exact Rds.cons _ (Rds.cons _ (by assumption)) | exact own_rds 0 rfl | exact own_rds 1 rfl | exact own_rds 2 rfl) (by first | rfl | (simp; done)) (by first | rfl | (simp; done)) (by omega) (by omega) (by decide) fun A' c' => ?_))
   | refine o_move rfl (by decide) ?_
   | refine o_assign rfl (by decide) ?_
   | refine o_nil rfl (by decide) ?_
   | refine o_extract rfl rfl (by decide) ?_
   | refine o_not rfl (by decide) ?_
   | refine o_field0 tabOk rfl rfl rfl rfl rfl (by decide) ?_
   | refine o_field tabOk rfl rfl rfl rfl rfl (by decide) ?_
   | refine o_conv tabOk rfl rfl rfl (by decide) ?_))
end Go.Proofs.Ytmfnjmmdchlkiaa
