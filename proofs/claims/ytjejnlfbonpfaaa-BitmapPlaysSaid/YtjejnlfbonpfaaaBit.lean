/-
Walks over package bitmap and the document's bitmap: what each function computes, a map as a function from places to bytes, or to bools.
-/
import Derived.Test.YtjejnlfbonpfaaaTab
import Derived.Test.YtjejnlfbonpfaaaBitM
namespace Go.Proofs.Ytjejnlfbonpfaaa
set_option linter.unusedVariables false
set_option linter.unusedSimpArgs false
open Eng

def bm (r : Nat → Int) : List Value := arr 64 (fun i => .int .u8 (r i))
def rm (x : Nat → Bool) : List Value := arr 512 (fun i => .bool (x i))
theorem bm_len (r : Nat → Int) : (bm r).length = 64 := arr_length _ _
theorem rm_len (x : Nat → Bool) : (rm x).length = 512 := arr_length _ _
theorem bm_at (r : Nat → Int) {i : Nat} (h : i < 64) : (bm r)[i]? = some (.int .u8 (r i)) := arr_get h
theorem rm_at (x : Nat → Bool) {i : Nat} (h : i < 512) : (rm x)[i]? = some (.bool (x i)) := arr_get h
theorem upd_int' (kd : IntKind) (r : Nat → Int) (i : Nat) (x : Int) : upd (fun i => Value.int kd (r i)) i (.int kd x) = fun j => .int kd (upd r i x j) := by
  funext j; unfold upd; split <;> rfl
theorem upd_bool (r : Nat → Bool) (i : Nat) (x : Bool) : upd (fun i => Value.bool (r i)) i (.bool x) = fun j => .bool (upd r i x j) := by
  funext j; unfold upd; split <;> rfl
theorem bm_set (r : Nat → Int) (i : Nat) (x : Int) : (bm r).set i (.int .u8 x) = bm (upd r i x) := by unfold bm; rw [arr_set, upd_int']
theorem rm_set (r : Nat → Bool) (i : Nat) (x : Bool) : (rm r).set i (.bool x) = rm (upd r i x) := by unfold rm; rw [arr_set, upd_bool]
theorem bm_one (r : Nat → Int) : (bm r).all (·.oneCell') = true := by simp [bm, arr]; intros; rfl
theorem rm_one (r : Nat → Bool) : (rm r).all (·.oneCell') = true := by simp [rm, arr]; intros; rfl
theorem bm_congr {r s : Nat → Int} (h : ∀ i, i < 64 → r i = s i) : bm r = bm s := arr_congr fun i hi => by rw [h i hi]
theorem rm_congr {r s : Nat → Bool} (h : ∀ i, i < 512 → r i = s i) : rm r = rm s := arr_congr fun i hi => by rw [h i hi]
attribute [local irreducible] Eng.Z Eng.S bm rm

theorem in_fn (i : Int) : Pf Try.prog 44 [.int .i64 i] (.bool (decide (0 ≤ i ∧ i < 512))) := by
  intro w hw
  refine f_enter Try.func44 rfl Try.ntmps44 rfl hw ?_
  repeat' (first
    | (refine s_is ?_; first
        | (refine s_isret ?_; first
            | (exact p_r1 rfl (res_t (by show some (Value.bool _) = some (Value.bool _); simp; omega))))
        | (refine s_isw ?_; first
            | refine c_seq ?_
            | refine c_block ?_
            | refine c_region ?_
            | refine c_mixed mixed (by kernel_rfl) ?_
            | refine c_skip ?_
            | refine c_ret ?_
            | refine c_exit ?_
            | (refine s_iscond ?_; first
                | (refine c_true rfl (by first | with_reducible rfl | ((with_reducible refine decide_eq_true ?_); first | with_reducible rfl | with_reducible assumption | omega) | (simp only [Bool.not_eq_true', decide_eq_false_iff_not]; omega) | (with_reducible assumption) | (rw [decide_eq_false] <;> (first | omega | with_reducible rfl)) | (rw [decide_eq_true] <;> (first | omega | with_reducible rfl)) | (simp; done) | (simp; omega)) ?_)
                | (refine c_false rfl (by first | with_reducible rfl | ((with_reducible refine decide_eq_false ?_); first | with_reducible assumption | omega) | (simp only [Bool.not_eq_false', decide_eq_true_eq]; omega) | (with_reducible assumption) | (rw [decide_eq_false] <;> (first | omega | with_reducible rfl)) | (rw [decide_eq_true] <;> (first | omega | with_reducible rfl)) | (simp; done) | (simp; omega)) ?_)
                | refine c_cond rfl (fun hc => ?_) (fun hc => ?_)
                | refine c_condb rfl (fun hc => ?_) (fun hc => ?_)))
        | refine x_then ?_
        | refine x_then_ret ?_
        | refine x_then_exit ?_
        | refine x_block _ ?_
        | refine x_block_ret _ ?_
        | refine x_block_exit _ ?_
        | refine x_block_past (by decide) ?_
        | refine z_tailm ?_)
    | (refine z_isguard ?_; first
        | (refine z_want rfl rfl (by first | with_reducible rfl | ((with_reducible refine decide_eq_true ?_); first | with_reducible rfl | with_reducible assumption | omega) | ((with_reducible refine decide_eq_false ?_); first | with_reducible assumption | omega) | (simp only [Bool.not_eq_true', Bool.not_eq_false', decide_eq_false_iff_not, decide_eq_true_eq]; omega) | (with_reducible assumption) | (rw [decide_eq_false] <;> (first | omega | with_reducible rfl)) | (rw [decide_eq_true] <;> (first | omega | with_reducible rfl)) | (simp; done) | (simp; omega)) ?_)
        | (refine z_skip (by decide) rfl rfl (by first | with_reducible rfl | ((with_reducible refine decide_eq_true ?_); first | with_reducible rfl | with_reducible assumption | omega) | ((with_reducible refine decide_eq_false ?_); first | with_reducible assumption | omega) | (simp only [Bool.not_eq_true', Bool.not_eq_false', decide_eq_false_iff_not, decide_eq_true_eq]; omega) | (with_reducible assumption) | (rw [decide_eq_false] <;> (first | omega | with_reducible rfl)) | (rw [decide_eq_true] <;> (first | omega | with_reducible rfl)) | (simp; done) | (simp; omega)) ?_)
        | refine z_skipu (by decide) rfl rfl ?_
        | refine z_guard1 (by decide) rfl rfl (fun hc => ?_) (fun hc => ?_)
        | refine z_guard0 (by decide) rfl rfl (fun hc => ?_) (fun hc => ?_)
        | refine z_guardb (by decide) rfl rfl (fun hc => ?_) (fun hc => ?_))
    | (refine z_isnil ?_; first
        | refine z_list ?_
        | refine z_mixed ?_
        | refine z_mono0 ?_
        | refine z_mono1 (by decide) fun g => ?_
        | refine z_mono2 (by decide) (by decide) fun g g' => ?_
        | refine z_mixedx ?_
        | refine z_quiet ?_)
    | (refine z_isop ?_; first
        | (refine z_isbin ?_; first
            | (refine z_isb .add ?_; first
                | refine o_add rfl rfl (by omega) (by omega) (by decide) ?_
                | refine o_addw rfl rfl (by decide) ?_)
            | (refine z_isb .sub ?_; first
                | refine o_sub rfl rfl (by omega) (by omega) (by decide) ?_
                | refine o_subw rfl rfl (by decide) ?_)
            | (refine z_isb .mul ?_; first
                | refine o_mul rfl rfl (by omega) (by omega) (by decide) ?_
                | refine o_mulw rfl rfl (by decide) ?_)
            | (refine z_isb .eql ?_; first
                | refine o_eq rfl rfl (by decide) ?_
                | refine o_beq tabOk rfl rfl rfl (by decide) ?_
                | refine o_peq tabOk rfl rfl (by decide) ?_)
            | (refine z_isb .neq ?_; first
                | refine o_ne rfl rfl (by decide) ?_
                | refine o_bne tabOk rfl rfl rfl (by decide) ?_
                | refine o_pne tabOk rfl rfl (by decide) ?_)
            | (refine z_isb .lss ?_; first
                | refine o_lt rfl rfl (by decide) ?_)
            | (refine z_isb .leq ?_; first
                | refine o_le rfl rfl (by decide) ?_)
            | (refine z_isb .gtr ?_; first
                | refine o_gt rfl rfl (by decide) ?_)
            | (refine z_isb .geq ?_; first
                | refine o_ge rfl rfl (by decide) ?_)
            | (refine z_isb .quo ?_; first
                | refine o_quo rfl rfl (by omega) (by omega) (by omega) (by decide) ?_
                | refine o_quo8 rfl rfl (by omega) (by omega) (by omega) (by decide) ?_
                | refine o_quot rfl rfl (by omega) (by decide) ?_)
            | (refine z_isb .rem ?_; first
                | refine o_rem rfl rfl (by omega) (by omega) (by decide) ?_
                | refine o_remk rfl rfl (by omega) (by omega) (by decide) ?_
                | refine o_remt rfl rfl (by omega) (by decide) ?_)
            | (refine z_isb .and ?_; first
                | refine o_and rfl rfl (by decide) ?_)
            | (refine z_isb .or ?_; first
                | refine o_or rfl rfl (by decide) ?_)
            | (refine z_isb .andNot ?_; first
                | refine o_andNot rfl rfl (by decide) ?_)
            | (refine z_isb .shl ?_; first
                | refine o_shl rfl rfl (by omega) (by decide) ?_)
            | (refine z_isb .shr ?_; first
                | refine o_shr rfl rfl (by omega) (by decide) ?_))
        | (refine z_isload ?_; first
            | (refine z_ld1 tabOk rfl rfl ?_; first
                | ((refine z_ldi 0 rfl rfl ?_; refine o_load tabOk rfl rfl rfl 0 rfl (by first | exact bm_at _ (by omega) | exact rm_at _ (by omega) | rfl) (by decide) ?_))
                | ((refine z_ldi 1 rfl rfl ?_; refine o_load tabOk rfl rfl rfl 1 rfl (by first | exact bm_at _ (by omega) | exact rm_at _ (by omega) | rfl) (by decide) ?_))
                | ((refine z_ldi 2 rfl rfl ?_; refine o_load tabOk rfl rfl rfl 2 rfl (by first | exact bm_at _ (by omega) | exact rm_at _ (by omega) | rfl) (by decide) ?_))
                | ((refine z_ldi 3 rfl rfl ?_; refine o_load tabOk rfl rfl rfl 3 rfl (by first | exact bm_at _ (by omega) | exact rm_at _ (by omega) | rfl) (by decide) ?_))
                | ((refine z_ldi 4 rfl rfl ?_; refine o_load tabOk rfl rfl rfl 4 rfl (by first | exact bm_at _ (by omega) | exact rm_at _ (by omega) | rfl) (by decide) ?_))
                | ((refine z_ldi 5 rfl rfl ?_; refine o_load tabOk rfl rfl rfl 5 rfl (by first | exact bm_at _ (by omega) | exact rm_at _ (by omega) | rfl) (by decide) ?_))
                | ((refine z_ldi 6 rfl rfl ?_; refine o_load tabOk rfl rfl rfl 6 rfl (by first | exact bm_at _ (by omega) | exact rm_at _ (by omega) | rfl) (by decide) ?_))
                | refine o_loads tabOk (by first | assumption | exact Rds.cons _ (by assumption) | exact Rds.cons _ (Rds.cons _ (by assumption)) | exact own_rds 0 rfl | exact own_rds 1 rfl | exact own_rds 2 rfl) rfl rfl rfl (by first | exact bm_at _ (by omega) | exact rm_at _ (by omega) | rfl) (by decide) ?_)
            | (refine z_ldw tabOk rfl rfl ?_; first
                | ((refine z_ldi 0 rfl rfl ?_; refine o_loadw tabOk rfl rfl rfl 0 rfl (by first | exact bm_len _ | exact rm_len _ | (simp only [bm_len, rm_len]) | rfl) (by decide) ?_))
                | ((refine z_ldi 1 rfl rfl ?_; refine o_loadw tabOk rfl rfl rfl 1 rfl (by first | exact bm_len _ | exact rm_len _ | (simp only [bm_len, rm_len]) | rfl) (by decide) ?_))
                | ((refine z_ldi 2 rfl rfl ?_; refine o_loadw tabOk rfl rfl rfl 2 rfl (by first | exact bm_len _ | exact rm_len _ | (simp only [bm_len, rm_len]) | rfl) (by decide) ?_))
                | ((refine z_ldi 3 rfl rfl ?_; refine o_loadw tabOk rfl rfl rfl 3 rfl (by first | exact bm_len _ | exact rm_len _ | (simp only [bm_len, rm_len]) | rfl) (by decide) ?_))
                | ((refine z_ldi 4 rfl rfl ?_; refine o_loadw tabOk rfl rfl rfl 4 rfl (by first | exact bm_len _ | exact rm_len _ | (simp only [bm_len, rm_len]) | rfl) (by decide) ?_))
                | ((refine z_ldi 5 rfl rfl ?_; refine o_loadw tabOk rfl rfl rfl 5 rfl (by first | exact bm_len _ | exact rm_len _ | (simp only [bm_len, rm_len]) | rfl) (by decide) ?_))
                | ((refine z_ldi 6 rfl rfl ?_; refine o_loadw tabOk rfl rfl rfl 6 rfl (by first | exact bm_len _ | exact rm_len _ | (simp only [bm_len, rm_len]) | rfl) (by decide) ?_))))
        | (refine z_isstore ?_; first
            | (refine z_stw rfl ?_; first
                | ((refine z_sti 0 rfl rfl ?_; refine o_storeb0 rfl tabOk rfl rfl rfl (by first | exact bm_len _ | exact rm_len _ | (simp only [bm_len, rm_len]) | rfl) (by first | exact bm_one _ | exact rm_one _ | rfl) (by first | exact bm_len _ | exact rm_len _ | (simp only [bm_len, rm_len]) | rfl) ?_))
                | ((refine z_sti 1 rfl rfl ?_; refine o_storeb1 rfl tabOk rfl rfl rfl (by first | exact bm_len _ | exact rm_len _ | (simp only [bm_len, rm_len]) | rfl) (by first | exact bm_one _ | exact rm_one _ | rfl) (by first | exact bm_len _ | exact rm_len _ | (simp only [bm_len, rm_len]) | rfl) ?_))
                | ((refine z_sti 2 rfl rfl ?_; refine o_storeb2 rfl tabOk rfl rfl rfl (by first | exact bm_len _ | exact rm_len _ | (simp only [bm_len, rm_len]) | rfl) (by first | exact bm_one _ | exact rm_one _ | rfl) (by first | exact bm_len _ | exact rm_len _ | (simp only [bm_len, rm_len]) | rfl) ?_))
                | ((refine z_sti 3 rfl rfl ?_; refine o_storeb3 rfl tabOk rfl rfl rfl (by first | exact bm_len _ | exact rm_len _ | (simp only [bm_len, rm_len]) | rfl) (by first | exact bm_one _ | exact rm_one _ | rfl) (by first | exact bm_len _ | exact rm_len _ | (simp only [bm_len, rm_len]) | rfl) ?_))
                | ((refine z_sti 4 rfl rfl ?_; refine o_storeb4 rfl tabOk rfl rfl rfl (by first | exact bm_len _ | exact rm_len _ | (simp only [bm_len, rm_len]) | rfl) (by first | exact bm_one _ | exact rm_one _ | rfl) (by first | exact bm_len _ | exact rm_len _ | (simp only [bm_len, rm_len]) | rfl) ?_))
                | ((refine z_sti 5 rfl rfl ?_; refine o_storeb5 rfl tabOk rfl rfl rfl (by first | exact bm_len _ | exact rm_len _ | (simp only [bm_len, rm_len]) | rfl) (by first | exact bm_one _ | exact rm_one _ | rfl) (by first | exact bm_len _ | exact rm_len _ | (simp only [bm_len, rm_len]) | rfl) ?_))
                | ((refine z_sti 6 rfl rfl ?_; refine o_storeb6 rfl tabOk rfl rfl rfl (by first | exact bm_len _ | exact rm_len _ | (simp only [bm_len, rm_len]) | rfl) (by first | exact bm_one _ | exact rm_one _ | rfl) (by first | exact bm_len _ | exact rm_len _ | (simp only [bm_len, rm_len]) | rfl) ?_)))
            | (refine z_st1 rfl rfl ?_; first
                | refine o_store rfl tabOk rfl rfl rfl rfl rfl (by first | exact bm_at _ (by omega) | exact rm_at _ (by omega) | rfl) (by first | exact bm_set _ _ _ | exact rm_set _ _ _ | rfl) ?_
                | ((refine z_sti 1 rfl rfl ?_; refine o_store1 rfl tabOk rfl rfl rfl rfl rfl (by first | exact bm_at _ (by omega) | exact rm_at _ (by omega) | rfl) (by first | exact bm_set _ _ _ | exact rm_set _ _ _ | rfl) ?_))
                | ((refine z_sti 2 rfl rfl ?_; refine o_store2 rfl tabOk rfl rfl rfl rfl rfl (by first | exact bm_at _ (by omega) | exact rm_at _ (by omega) | rfl) (by first | exact bm_set _ _ _ | exact rm_set _ _ _ | rfl) ?_))
                | ((refine z_sti 3 rfl rfl ?_; refine o_store3 rfl tabOk rfl rfl rfl rfl rfl (by first | exact bm_at _ (by omega) | exact rm_at _ (by omega) | rfl) (by first | exact bm_set _ _ _ | exact rm_set _ _ _ | rfl) ?_))
                | ((refine z_sti 4 rfl rfl ?_; refine o_store4 rfl tabOk rfl rfl rfl rfl rfl (by first | exact bm_at _ (by omega) | exact rm_at _ (by omega) | rfl) (by first | exact bm_set _ _ _ | exact rm_set _ _ _ | rfl) ?_))
                | ((refine z_sti 5 rfl rfl ?_; refine o_store5 rfl tabOk rfl rfl rfl rfl rfl (by first | exact bm_at _ (by omega) | exact rm_at _ (by omega) | rfl) (by first | exact bm_set _ _ _ | exact rm_set _ _ _ | rfl) ?_))
                | ((refine z_sti 6 rfl rfl ?_; refine o_store6 rfl tabOk rfl rfl rfl rfl rfl (by first | exact bm_at _ (by omega) | exact rm_at _ (by omega) | rfl) (by first | exact bm_set _ _ _ | exact rm_set _ _ _ | rfl) ?_))))
        | (refine z_isfield ?_; first
            | refine o_fv tabOk rfl rfl rfl rfl rfl (by first | exact bm_at _ (by omega) | exact rm_at _ (by omega) | rfl) (by decide) ?_
            | refine o_fvw tabOk rfl rfl rfl rfl rfl (by first | exact bm_len _ | exact rm_len _ | (simp only [bm_len, rm_len]) | rfl) (by decide) ?_)
        | (refine z_isindex ?_; first
            | refine o_ixv tabOk rfl rfl rfl rfl rfl (by omega) (by omega) (by first | exact bm_at _ (by omega) | exact rm_at _ (by omega) | rfl) (by decide) ?_)
        | (refine z_ismakes ?_; first
            | refine o_make1 rfl tabOk zeroOk rfl rfl rfl rfl rfl (by decide) fun g => ?_)
        | (refine z_ispick ?_; first
            | (refine o_pick1 rfl (by first | with_reducible rfl | ((with_reducible refine decide_eq_true ?_); first | with_reducible rfl | with_reducible assumption | omega) | (simp only [Bool.not_eq_true', decide_eq_false_iff_not]; omega) | (with_reducible assumption) | (rw [decide_eq_false] <;> (first | omega | with_reducible rfl)) | (rw [decide_eq_true] <;> (first | omega | with_reducible rfl)) | (simp; done) | (simp; omega)) rfl (by decide) ?_)
            | (refine o_pick0 rfl (by first | with_reducible rfl | ((with_reducible refine decide_eq_false ?_); first | with_reducible assumption | omega) | (simp only [Bool.not_eq_false', decide_eq_true_eq]; omega) | (with_reducible assumption) | (rw [decide_eq_false] <;> (first | omega | with_reducible rfl)) | (rw [decide_eq_true] <;> (first | omega | with_reducible rfl)) | (simp; done) | (simp; omega)) rfl (by decide) ?_))
        | (refine z_isix ?_; first
            | refine o_index0 tabOk rfl rfl rfl rfl (by omega) (by omega) (by decide) ?_
            | refine o_index1 tabOk rfl rfl rfl rfl (by omega) (by omega) (by decide) ?_
            | refine o_indexsk tabOk rfl rfl rfl rfl (by omega) (by omega) (by decide) ?_
            | refine o_indexs1 tabOk (by first | assumption) rfl rfl rfl rfl (by omega) (by omega) (by decide) ?_)
        | (refine z_isslice ?_; first
            | refine o_slice tabOk rfl rfl rfl rfl rfl (by omega) (by omega) (by omega) (by decide) ?_
            | refine o_slicel tabOk rfl rfl rfl rfl (by omega) (by omega) (by omega) (by decide) ?_
            | refine o_sliceh tabOk rfl rfl rfl rfl (by omega) (by omega) (by decide) ?_
            | refine o_slp tabOk rfl rfl rfl rfl rfl (by omega) (by omega) (by omega) (by omega) (by decide) ?_
            | refine o_slpl tabOk rfl rfl rfl rfl (by omega) (by omega) (by decide) ?_
            | refine o_slp0 tabOk rfl rfl rfl rfl (by decide) ?_)
        | (refine z_isbi ?_; first
            | refine o_len tabOk rfl rfl (by decide) ?_
            | refine o_min rfl rfl (by decide) ?_
            | refine o_max rfl rfl (by decide) ?_
            | refine o_append rfl tabOk zeroOk rfl rfl rfl rfl rfl rfl (by first | assumption | exact Rds.cons _ (by assumption) | exact Rds.cons _ (Rds.cons _ (by assumption)) | exact own_rds 0 rfl | exact own_rds 1 rfl | exact own_rds 2 rfl) (by first | rfl | simp) (by first | rfl | simp) (by omega) (by omega) (by decide) fun A' c' => ?_
            | (refine z_front rfl 1 rfl ?_; refine o_append rfl tabOk zeroOk rfl rfl rfl rfl rfl rfl (by first | assumption | exact Rds.cons _ (by assumption) | exact Rds.cons _ (Rds.cons _ (by assumption)) | exact own_rds 0 rfl | exact own_rds 1 rfl | exact own_rds 2 rfl) (by first | rfl | simp) (by first | rfl | simp) (by omega) (by omega) (by decide) fun A' c' => ?_)
            | (refine z_front rfl 2 rfl ?_; refine o_append rfl tabOk zeroOk rfl rfl rfl rfl rfl rfl (by first | assumption | exact Rds.cons _ (by assumption) | exact Rds.cons _ (Rds.cons _ (by assumption)) | exact own_rds 0 rfl | exact own_rds 1 rfl | exact own_rds 2 rfl) (by first | rfl | simp) (by first | rfl | simp) (by omega) (by omega) (by decide) fun A' c' => ?_)
            | (refine z_front rfl 3 rfl ?_; refine o_append rfl tabOk zeroOk rfl rfl rfl rfl rfl rfl (by first | assumption | exact Rds.cons _ (by assumption) | exact Rds.cons _ (Rds.cons _ (by assumption)) | exact own_rds 0 rfl | exact own_rds 1 rfl | exact own_rds 2 rfl) (by first | rfl | simp) (by first | rfl | simp) (by omega) (by omega) (by decide) fun A' c' => ?_)
            | (refine z_front rfl 4 rfl ?_; refine o_append rfl tabOk zeroOk rfl rfl rfl rfl rfl rfl (by first | assumption | exact Rds.cons _ (by assumption) | exact Rds.cons _ (Rds.cons _ (by assumption)) | exact own_rds 0 rfl | exact own_rds 1 rfl | exact own_rds 2 rfl) (by first | rfl | simp) (by first | rfl | simp) (by omega) (by omega) (by decide) fun A' c' => ?_)
            | (refine z_front rfl 5 rfl ?_; refine o_append rfl tabOk zeroOk rfl rfl rfl rfl rfl rfl (by first | assumption | exact Rds.cons _ (by assumption) | exact Rds.cons _ (Rds.cons _ (by assumption)) | exact own_rds 0 rfl | exact own_rds 1 rfl | exact own_rds 2 rfl) (by first | rfl | simp) (by first | rfl | simp) (by omega) (by omega) (by decide) fun A' c' => ?_))
        | refine o_move rfl (by decide) ?_
        | refine o_assign rfl (by decide) ?_
        | refine o_nil rfl (by decide) ?_
        | refine o_extract rfl rfl (by decide) ?_
        | refine o_not rfl (by decide) ?_
        | refine o_field0 tabOk rfl rfl rfl rfl rfl (by decide) ?_
        | refine o_field tabOk rfl rfl rfl rfl rfl (by decide) ?_
        | refine o_conv tabOk rfl rfl rfl (by decide) ?_))
/-- Is a block taken? -/
def hasB (r : Nat → Int) (i : Int) : Bool := decide (0 ≤ i ∧ i < 512) && tb r i.toNat
theorem has_tb {r : Nat → Int} (hr : By r) {i : Int} (h : 0 ≤ i ∧ i < 512) : decide (bitv .and .u8 (shrv .u8 (r (i / 8).toNat) (i % 8)) 1 = 1) = hasB r i := by
  unfold hasB tb
  rw [has_bit (hr _).1 (hr _).2 (by omega) (by omega), show (i / 8).toNat = i.toNat / 8 by omega, show (i % 8).toNat = i.toNat % 8 by omega]
  simp [h]
theorem has_fn (r : Nat → Int) (hr : By r) (i : Int) : Pf Try.prog 16 [.agg (bm r).toArray, .int .i64 i] (.bool (hasB r i)) := by
  intro w hw
  refine f_enter Try.func16 rfl Try.ntmps16 rfl hw ?_
  repeat' (first
    | (refine s_is ?_; first
        | (refine s_isret ?_; first
            | (exact p_r1 rfl (res_t (by show some (Value.bool _) = some (Value.bool _); first | rw [has_tb hr (by assumption)] | simp [hasB, *]))))
        | (refine s_isw ?_; first
            | refine c_seq ?_
            | refine c_block ?_
            | refine c_region ?_
            | refine c_mixed mixed (by kernel_rfl) ?_
            | refine c_skip ?_
            | refine c_ret ?_
            | refine c_exit ?_
            | (refine s_iscond ?_; first
                | (refine c_true rfl (by first | with_reducible rfl | ((with_reducible refine decide_eq_true ?_); first | with_reducible rfl | with_reducible assumption | omega) | (simp only [Bool.not_eq_true', decide_eq_false_iff_not]; omega) | (with_reducible assumption) | (rw [decide_eq_false] <;> (first | omega | with_reducible rfl)) | (rw [decide_eq_true] <;> (first | omega | with_reducible rfl)) | (simp; done) | (simp; omega)) ?_)
                | (refine c_false rfl (by first | with_reducible rfl | ((with_reducible refine decide_eq_false ?_); first | with_reducible assumption | omega) | (simp only [Bool.not_eq_false', decide_eq_true_eq]; omega) | (with_reducible assumption) | (rw [decide_eq_false] <;> (first | omega | with_reducible rfl)) | (rw [decide_eq_true] <;> (first | omega | with_reducible rfl)) | (simp; done) | (simp; omega)) ?_)
                | refine c_cond rfl (fun hc => ?_) (fun hc => ?_)
                | refine c_condb rfl (fun hc => ?_) (fun hc => ?_)))
        | refine x_then ?_
        | refine x_then_ret ?_
        | refine x_then_exit ?_
        | refine x_block _ ?_
        | refine x_block_ret _ ?_
        | refine x_block_exit _ ?_
        | refine x_block_past (by decide) ?_
        | refine z_tailm ?_)
    | (refine z_isguard ?_; first
        | (refine z_want rfl rfl (by first | with_reducible rfl | ((with_reducible refine decide_eq_true ?_); first | with_reducible rfl | with_reducible assumption | omega) | ((with_reducible refine decide_eq_false ?_); first | with_reducible assumption | omega) | (simp only [Bool.not_eq_true', Bool.not_eq_false', decide_eq_false_iff_not, decide_eq_true_eq]; omega) | (with_reducible assumption) | (rw [decide_eq_false] <;> (first | omega | with_reducible rfl)) | (rw [decide_eq_true] <;> (first | omega | with_reducible rfl)) | (simp; done) | (simp; omega)) ?_)
        | (refine z_skip (by decide) rfl rfl (by first | with_reducible rfl | ((with_reducible refine decide_eq_true ?_); first | with_reducible rfl | with_reducible assumption | omega) | ((with_reducible refine decide_eq_false ?_); first | with_reducible assumption | omega) | (simp only [Bool.not_eq_true', Bool.not_eq_false', decide_eq_false_iff_not, decide_eq_true_eq]; omega) | (with_reducible assumption) | (rw [decide_eq_false] <;> (first | omega | with_reducible rfl)) | (rw [decide_eq_true] <;> (first | omega | with_reducible rfl)) | (simp; done) | (simp; omega)) ?_)
        | refine z_skipu (by decide) rfl rfl ?_
        | refine z_guard1 (by decide) rfl rfl (fun hc => ?_) (fun hc => ?_)
        | refine z_guard0 (by decide) rfl rfl (fun hc => ?_) (fun hc => ?_)
        | refine z_guardb (by decide) rfl rfl (fun hc => ?_) (fun hc => ?_))
    | (refine z_isnil ?_; first
        | refine z_list ?_
        | refine z_mixed ?_
        | refine z_mono0 ?_
        | refine z_mono1 (by decide) fun g => ?_
        | refine z_mono2 (by decide) (by decide) fun g g' => ?_
        | refine z_mixedx ?_
        | refine z_quiet ?_)
    | (refine z_isop ?_; first
        | refine o_boxa rfl rfl (by decide) fun g => ?_
        | (refine z_isbin ?_; first
            | (refine z_isb .add ?_; first
                | refine o_add rfl rfl (by omega) (by omega) (by decide) ?_
                | refine o_addw rfl rfl (by decide) ?_)
            | (refine z_isb .sub ?_; first
                | refine o_sub rfl rfl (by omega) (by omega) (by decide) ?_
                | refine o_subw rfl rfl (by decide) ?_)
            | (refine z_isb .mul ?_; first
                | refine o_mul rfl rfl (by omega) (by omega) (by decide) ?_
                | refine o_mulw rfl rfl (by decide) ?_)
            | (refine z_isb .eql ?_; first
                | refine o_eq rfl rfl (by decide) ?_
                | refine o_beq tabOk rfl rfl rfl (by decide) ?_
                | refine o_peq tabOk rfl rfl (by decide) ?_)
            | (refine z_isb .neq ?_; first
                | refine o_ne rfl rfl (by decide) ?_
                | refine o_bne tabOk rfl rfl rfl (by decide) ?_
                | refine o_pne tabOk rfl rfl (by decide) ?_)
            | (refine z_isb .lss ?_; first
                | refine o_lt rfl rfl (by decide) ?_)
            | (refine z_isb .leq ?_; first
                | refine o_le rfl rfl (by decide) ?_)
            | (refine z_isb .gtr ?_; first
                | refine o_gt rfl rfl (by decide) ?_)
            | (refine z_isb .geq ?_; first
                | refine o_ge rfl rfl (by decide) ?_)
            | (refine z_isb .quo ?_; first
                | refine o_quo rfl rfl (by omega) (by omega) (by omega) (by decide) ?_
                | refine o_quo8 rfl rfl (by omega) (by omega) (by omega) (by decide) ?_
                | refine o_quot rfl rfl (by omega) (by decide) ?_)
            | (refine z_isb .rem ?_; first
                | refine o_rem rfl rfl (by omega) (by omega) (by decide) ?_
                | refine o_remk rfl rfl (by omega) (by omega) (by decide) ?_
                | refine o_remt rfl rfl (by omega) (by decide) ?_)
            | (refine z_isb .and ?_; first
                | refine o_and rfl rfl (by decide) ?_)
            | (refine z_isb .or ?_; first
                | refine o_or rfl rfl (by decide) ?_)
            | (refine z_isb .andNot ?_; first
                | refine o_andNot rfl rfl (by decide) ?_)
            | (refine z_isb .shl ?_; first
                | refine o_shl rfl rfl (by omega) (by decide) ?_)
            | (refine z_isb .shr ?_; first
                | refine o_shr rfl rfl (by omega) (by decide) ?_))
        | (refine z_isload ?_; first
            | (refine z_ld1 tabOk rfl rfl ?_; first
                | ((refine z_ldi 0 rfl rfl ?_; refine o_load tabOk rfl rfl rfl 0 rfl (by first | exact bm_at _ (by omega) | exact rm_at _ (by omega) | rfl) (by decide) ?_))
                | ((refine z_ldi 1 rfl rfl ?_; refine o_load tabOk rfl rfl rfl 1 rfl (by first | exact bm_at _ (by omega) | exact rm_at _ (by omega) | rfl) (by decide) ?_))
                | ((refine z_ldi 2 rfl rfl ?_; refine o_load tabOk rfl rfl rfl 2 rfl (by first | exact bm_at _ (by omega) | exact rm_at _ (by omega) | rfl) (by decide) ?_))
                | ((refine z_ldi 3 rfl rfl ?_; refine o_load tabOk rfl rfl rfl 3 rfl (by first | exact bm_at _ (by omega) | exact rm_at _ (by omega) | rfl) (by decide) ?_))
                | ((refine z_ldi 4 rfl rfl ?_; refine o_load tabOk rfl rfl rfl 4 rfl (by first | exact bm_at _ (by omega) | exact rm_at _ (by omega) | rfl) (by decide) ?_))
                | ((refine z_ldi 5 rfl rfl ?_; refine o_load tabOk rfl rfl rfl 5 rfl (by first | exact bm_at _ (by omega) | exact rm_at _ (by omega) | rfl) (by decide) ?_))
                | ((refine z_ldi 6 rfl rfl ?_; refine o_load tabOk rfl rfl rfl 6 rfl (by first | exact bm_at _ (by omega) | exact rm_at _ (by omega) | rfl) (by decide) ?_))
                | refine o_loads tabOk (by first | assumption | exact Rds.cons _ (by assumption) | exact Rds.cons _ (Rds.cons _ (by assumption)) | exact own_rds 0 rfl | exact own_rds 1 rfl | exact own_rds 2 rfl) rfl rfl rfl (by first | exact bm_at _ (by omega) | exact rm_at _ (by omega) | rfl) (by decide) ?_)
            | (refine z_ldw tabOk rfl rfl ?_; first
                | ((refine z_ldi 0 rfl rfl ?_; refine o_loadw tabOk rfl rfl rfl 0 rfl (by first | exact bm_len _ | exact rm_len _ | (simp only [bm_len, rm_len]) | rfl) (by decide) ?_))
                | ((refine z_ldi 1 rfl rfl ?_; refine o_loadw tabOk rfl rfl rfl 1 rfl (by first | exact bm_len _ | exact rm_len _ | (simp only [bm_len, rm_len]) | rfl) (by decide) ?_))
                | ((refine z_ldi 2 rfl rfl ?_; refine o_loadw tabOk rfl rfl rfl 2 rfl (by first | exact bm_len _ | exact rm_len _ | (simp only [bm_len, rm_len]) | rfl) (by decide) ?_))
                | ((refine z_ldi 3 rfl rfl ?_; refine o_loadw tabOk rfl rfl rfl 3 rfl (by first | exact bm_len _ | exact rm_len _ | (simp only [bm_len, rm_len]) | rfl) (by decide) ?_))
                | ((refine z_ldi 4 rfl rfl ?_; refine o_loadw tabOk rfl rfl rfl 4 rfl (by first | exact bm_len _ | exact rm_len _ | (simp only [bm_len, rm_len]) | rfl) (by decide) ?_))
                | ((refine z_ldi 5 rfl rfl ?_; refine o_loadw tabOk rfl rfl rfl 5 rfl (by first | exact bm_len _ | exact rm_len _ | (simp only [bm_len, rm_len]) | rfl) (by decide) ?_))
                | ((refine z_ldi 6 rfl rfl ?_; refine o_loadw tabOk rfl rfl rfl 6 rfl (by first | exact bm_len _ | exact rm_len _ | (simp only [bm_len, rm_len]) | rfl) (by decide) ?_))))
        | (refine z_isstore ?_; first
            | (refine z_stw rfl ?_; first
                | ((refine z_sti 0 rfl rfl ?_; refine o_storeb0 rfl tabOk rfl rfl rfl (by first | exact bm_len _ | exact rm_len _ | (simp only [bm_len, rm_len]) | rfl) (by first | exact bm_one _ | exact rm_one _ | rfl) (by first | exact bm_len _ | exact rm_len _ | (simp only [bm_len, rm_len]) | rfl) ?_))
                | ((refine z_sti 1 rfl rfl ?_; refine o_storeb1 rfl tabOk rfl rfl rfl (by first | exact bm_len _ | exact rm_len _ | (simp only [bm_len, rm_len]) | rfl) (by first | exact bm_one _ | exact rm_one _ | rfl) (by first | exact bm_len _ | exact rm_len _ | (simp only [bm_len, rm_len]) | rfl) ?_))
                | ((refine z_sti 2 rfl rfl ?_; refine o_storeb2 rfl tabOk rfl rfl rfl (by first | exact bm_len _ | exact rm_len _ | (simp only [bm_len, rm_len]) | rfl) (by first | exact bm_one _ | exact rm_one _ | rfl) (by first | exact bm_len _ | exact rm_len _ | (simp only [bm_len, rm_len]) | rfl) ?_))
                | ((refine z_sti 3 rfl rfl ?_; refine o_storeb3 rfl tabOk rfl rfl rfl (by first | exact bm_len _ | exact rm_len _ | (simp only [bm_len, rm_len]) | rfl) (by first | exact bm_one _ | exact rm_one _ | rfl) (by first | exact bm_len _ | exact rm_len _ | (simp only [bm_len, rm_len]) | rfl) ?_))
                | ((refine z_sti 4 rfl rfl ?_; refine o_storeb4 rfl tabOk rfl rfl rfl (by first | exact bm_len _ | exact rm_len _ | (simp only [bm_len, rm_len]) | rfl) (by first | exact bm_one _ | exact rm_one _ | rfl) (by first | exact bm_len _ | exact rm_len _ | (simp only [bm_len, rm_len]) | rfl) ?_))
                | ((refine z_sti 5 rfl rfl ?_; refine o_storeb5 rfl tabOk rfl rfl rfl (by first | exact bm_len _ | exact rm_len _ | (simp only [bm_len, rm_len]) | rfl) (by first | exact bm_one _ | exact rm_one _ | rfl) (by first | exact bm_len _ | exact rm_len _ | (simp only [bm_len, rm_len]) | rfl) ?_))
                | ((refine z_sti 6 rfl rfl ?_; refine o_storeb6 rfl tabOk rfl rfl rfl (by first | exact bm_len _ | exact rm_len _ | (simp only [bm_len, rm_len]) | rfl) (by first | exact bm_one _ | exact rm_one _ | rfl) (by first | exact bm_len _ | exact rm_len _ | (simp only [bm_len, rm_len]) | rfl) ?_)))
            | (refine z_st1 rfl rfl ?_; first
                | refine o_store rfl tabOk rfl rfl rfl rfl rfl (by first | exact bm_at _ (by omega) | exact rm_at _ (by omega) | rfl) (by first | exact bm_set _ _ _ | exact rm_set _ _ _ | rfl) ?_
                | ((refine z_sti 1 rfl rfl ?_; refine o_store1 rfl tabOk rfl rfl rfl rfl rfl (by first | exact bm_at _ (by omega) | exact rm_at _ (by omega) | rfl) (by first | exact bm_set _ _ _ | exact rm_set _ _ _ | rfl) ?_))
                | ((refine z_sti 2 rfl rfl ?_; refine o_store2 rfl tabOk rfl rfl rfl rfl rfl (by first | exact bm_at _ (by omega) | exact rm_at _ (by omega) | rfl) (by first | exact bm_set _ _ _ | exact rm_set _ _ _ | rfl) ?_))
                | ((refine z_sti 3 rfl rfl ?_; refine o_store3 rfl tabOk rfl rfl rfl rfl rfl (by first | exact bm_at _ (by omega) | exact rm_at _ (by omega) | rfl) (by first | exact bm_set _ _ _ | exact rm_set _ _ _ | rfl) ?_))
                | ((refine z_sti 4 rfl rfl ?_; refine o_store4 rfl tabOk rfl rfl rfl rfl rfl (by first | exact bm_at _ (by omega) | exact rm_at _ (by omega) | rfl) (by first | exact bm_set _ _ _ | exact rm_set _ _ _ | rfl) ?_))
                | ((refine z_sti 5 rfl rfl ?_; refine o_store5 rfl tabOk rfl rfl rfl rfl rfl (by first | exact bm_at _ (by omega) | exact rm_at _ (by omega) | rfl) (by first | exact bm_set _ _ _ | exact rm_set _ _ _ | rfl) ?_))
                | ((refine z_sti 6 rfl rfl ?_; refine o_store6 rfl tabOk rfl rfl rfl rfl rfl (by first | exact bm_at _ (by omega) | exact rm_at _ (by omega) | rfl) (by first | exact bm_set _ _ _ | exact rm_set _ _ _ | rfl) ?_))))
        | (refine z_isfield ?_; first
            | refine o_fv tabOk rfl rfl rfl rfl rfl (by first | exact bm_at _ (by omega) | exact rm_at _ (by omega) | rfl) (by decide) ?_
            | refine o_fvw tabOk rfl rfl rfl rfl rfl (by first | exact bm_len _ | exact rm_len _ | (simp only [bm_len, rm_len]) | rfl) (by decide) ?_)
        | (refine z_isindex ?_; first
            | refine o_ixv tabOk rfl rfl rfl rfl rfl (by omega) (by omega) (by first | exact bm_at _ (by omega) | exact rm_at _ (by omega) | rfl) (by decide) ?_)
        | (refine z_ismakes ?_; first
            | refine o_make1 rfl tabOk zeroOk rfl rfl rfl rfl rfl (by decide) fun g => ?_)
        | (refine z_iscall ?_; first
            | ((refine z_iscallf 44 ?_; refine o_fn rfl Try.func44 rfl rfl rfl (in_fn _) (by decide) ?_)))
        | (refine z_ispick ?_; first
            | (refine o_pick1 rfl (by first | with_reducible rfl | ((with_reducible refine decide_eq_true ?_); first | with_reducible rfl | with_reducible assumption | omega) | (simp only [Bool.not_eq_true', decide_eq_false_iff_not]; omega) | (with_reducible assumption) | (rw [decide_eq_false] <;> (first | omega | with_reducible rfl)) | (rw [decide_eq_true] <;> (first | omega | with_reducible rfl)) | (simp; done) | (simp; omega)) rfl (by decide) ?_)
            | (refine o_pick0 rfl (by first | with_reducible rfl | ((with_reducible refine decide_eq_false ?_); first | with_reducible assumption | omega) | (simp only [Bool.not_eq_false', decide_eq_true_eq]; omega) | (with_reducible assumption) | (rw [decide_eq_false] <;> (first | omega | with_reducible rfl)) | (rw [decide_eq_true] <;> (first | omega | with_reducible rfl)) | (simp; done) | (simp; omega)) rfl (by decide) ?_))
        | (refine z_isix ?_; first
            | refine o_index0 tabOk rfl rfl rfl rfl (by omega) (by omega) (by decide) ?_
            | refine o_index1 tabOk rfl rfl rfl rfl (by omega) (by omega) (by decide) ?_
            | refine o_indexsk tabOk rfl rfl rfl rfl (by omega) (by omega) (by decide) ?_
            | refine o_indexs1 tabOk (by first | assumption) rfl rfl rfl rfl (by omega) (by omega) (by decide) ?_)
        | (refine z_isslice ?_; first
            | refine o_slice tabOk rfl rfl rfl rfl rfl (by omega) (by omega) (by omega) (by decide) ?_
            | refine o_slicel tabOk rfl rfl rfl rfl (by omega) (by omega) (by omega) (by decide) ?_
            | refine o_sliceh tabOk rfl rfl rfl rfl (by omega) (by omega) (by decide) ?_
            | refine o_slp tabOk rfl rfl rfl rfl rfl (by omega) (by omega) (by omega) (by omega) (by decide) ?_
            | refine o_slpl tabOk rfl rfl rfl rfl (by omega) (by omega) (by decide) ?_
            | refine o_slp0 tabOk rfl rfl rfl rfl (by decide) ?_)
        | (refine z_isbi ?_; first
            | refine o_len tabOk rfl rfl (by decide) ?_
            | refine o_min rfl rfl (by decide) ?_
            | refine o_max rfl rfl (by decide) ?_
            | refine o_append rfl tabOk zeroOk rfl rfl rfl rfl rfl rfl (by first | assumption | exact Rds.cons _ (by assumption) | exact Rds.cons _ (Rds.cons _ (by assumption)) | exact own_rds 0 rfl | exact own_rds 1 rfl | exact own_rds 2 rfl) (by first | rfl | simp) (by first | rfl | simp) (by omega) (by omega) (by decide) fun A' c' => ?_
            | (refine z_front rfl 1 rfl ?_; refine o_append rfl tabOk zeroOk rfl rfl rfl rfl rfl rfl (by first | assumption | exact Rds.cons _ (by assumption) | exact Rds.cons _ (Rds.cons _ (by assumption)) | exact own_rds 0 rfl | exact own_rds 1 rfl | exact own_rds 2 rfl) (by first | rfl | simp) (by first | rfl | simp) (by omega) (by omega) (by decide) fun A' c' => ?_)
            | (refine z_front rfl 2 rfl ?_; refine o_append rfl tabOk zeroOk rfl rfl rfl rfl rfl rfl (by first | assumption | exact Rds.cons _ (by assumption) | exact Rds.cons _ (Rds.cons _ (by assumption)) | exact own_rds 0 rfl | exact own_rds 1 rfl | exact own_rds 2 rfl) (by first | rfl | simp) (by first | rfl | simp) (by omega) (by omega) (by decide) fun A' c' => ?_)
            | (refine z_front rfl 3 rfl ?_; refine o_append rfl tabOk zeroOk rfl rfl rfl rfl rfl rfl (by first | assumption | exact Rds.cons _ (by assumption) | exact Rds.cons _ (Rds.cons _ (by assumption)) | exact own_rds 0 rfl | exact own_rds 1 rfl | exact own_rds 2 rfl) (by first | rfl | simp) (by first | rfl | simp) (by omega) (by omega) (by decide) fun A' c' => ?_)
            | (refine z_front rfl 4 rfl ?_; refine o_append rfl tabOk zeroOk rfl rfl rfl rfl rfl rfl (by first | assumption | exact Rds.cons _ (by assumption) | exact Rds.cons _ (Rds.cons _ (by assumption)) | exact own_rds 0 rfl | exact own_rds 1 rfl | exact own_rds 2 rfl) (by first | rfl | simp) (by first | rfl | simp) (by omega) (by omega) (by decide) fun A' c' => ?_)
            | (refine z_front rfl 5 rfl ?_; refine o_append rfl tabOk zeroOk rfl rfl rfl rfl rfl rfl (by first | assumption | exact Rds.cons _ (by assumption) | exact Rds.cons _ (Rds.cons _ (by assumption)) | exact own_rds 0 rfl | exact own_rds 1 rfl | exact own_rds 2 rfl) (by first | rfl | simp) (by first | rfl | simp) (by omega) (by omega) (by decide) fun A' c' => ?_))
        | refine o_move rfl (by decide) ?_
        | refine o_assign rfl (by decide) ?_
        | refine o_nil rfl (by decide) ?_
        | refine o_extract rfl rfl (by decide) ?_
        | refine o_not rfl (by decide) ?_
        | refine o_field0 tabOk rfl rfl rfl rfl rfl (by decide) ?_
        | refine o_field tabOk rfl rfl rfl rfl rfl (by decide) ?_
        | refine o_conv tabOk rfl rfl rfl (by decide) ?_))
def takeB (r : Nat → Int) (i : Int) (b : Bool) : Nat → Int := if 0 ≤ i ∧ i < 512 then setb r i.toNat b else r
theorem By.takeB {r : Nat → Int} (h : By r) (i : Int) (b : Bool) : By (takeB r i b) := by
  unfold Ytjejnlfbonpfaaa.takeB
  split
  · exact h.setb _ _
  · exact h
theorem take_in {r : Nat → Int} (hr : By r) {i : Int} (h : 0 ≤ i ∧ i < 512) : upd r (i / 8).toNat (bitv .or .u8 (r (i / 8).toNat) (shlv .u8 1 (i % 8))) = takeB r i true := by
  unfold takeB setb
  rw [if_pos h, or_bit (hr _).1 (hr _).2 (by omega) (by omega), show (i / 8).toNat = i.toNat / 8 by omega, show (i % 8).toNat = i.toNat % 8 by omega]
theorem free_in {r : Nat → Int} (hr : By r) {i : Int} (h : 0 ≤ i ∧ i < 512) : upd r (i / 8).toNat (bitv .andNot .u8 (r (i / 8).toNat) (shlv .u8 1 (i % 8))) = takeB r i false := by
  unfold takeB setb
  rw [if_pos h, andNot_bit (hr _).1 (hr _).2 (by omega) (by omega), show (i / 8).toNat = i.toNat / 8 by omega, show (i % 8).toNat = i.toNat % 8 by omega]
theorem take_out {r : Nat → Int} {i : Int} (h : ¬ (0 ≤ i ∧ i < 512)) (b : Bool) : takeB r i b = r := if_neg h
theorem take_fn (r : Nat → Int) (hr : By r) (i : Int) : Pf Try.prog 17 [.agg (bm r).toArray, .int .i64 i] (.agg (bm (takeB r i true)).toArray) := by
  intro w hw
  refine f_enter Try.func17 rfl Try.ntmps17 rfl hw ?_
  by_cases h : 0 ≤ i ∧ i < 512
  · rw [← take_in hr h]
    repeat' (first
      | (refine s_is ?_; first
          | (refine s_isret ?_; first
              | exact p_r1 rfl (res_c tabOk rfl rfl rfl 0 rfl (bm_len _)))
          | (refine s_isw ?_; first
              | refine c_seq ?_
              | refine c_block ?_
              | refine c_region ?_
              | refine c_mixed mixed (by kernel_rfl) ?_
              | refine c_skip ?_
              | refine c_ret ?_
              | refine c_exit ?_
              | (refine s_iscond ?_; first
                  | (refine c_true rfl (by first | with_reducible rfl | ((with_reducible refine decide_eq_true ?_); first | with_reducible rfl | with_reducible assumption | omega) | (simp only [Bool.not_eq_true', decide_eq_false_iff_not]; omega) | (with_reducible assumption) | (rw [decide_eq_false] <;> (first | omega | with_reducible rfl)) | (rw [decide_eq_true] <;> (first | omega | with_reducible rfl)) | (simp; done) | (simp; omega)) ?_)
                  | (refine c_false rfl (by first | with_reducible rfl | ((with_reducible refine decide_eq_false ?_); first | with_reducible assumption | omega) | (simp only [Bool.not_eq_false', decide_eq_true_eq]; omega) | (with_reducible assumption) | (rw [decide_eq_false] <;> (first | omega | with_reducible rfl)) | (rw [decide_eq_true] <;> (first | omega | with_reducible rfl)) | (simp; done) | (simp; omega)) ?_)
                  | refine c_cond rfl (fun hc => ?_) (fun hc => ?_)
                  | refine c_condb rfl (fun hc => ?_) (fun hc => ?_)))
          | refine x_then ?_
          | refine x_then_ret ?_
          | refine x_then_exit ?_
          | refine x_block _ ?_
          | refine x_block_ret _ ?_
          | refine x_block_exit _ ?_
          | refine x_block_past (by decide) ?_
          | refine z_tailm ?_)
      | (refine z_isguard ?_; first
          | (refine z_want rfl rfl (by first | with_reducible rfl | ((with_reducible refine decide_eq_true ?_); first | with_reducible rfl | with_reducible assumption | omega) | ((with_reducible refine decide_eq_false ?_); first | with_reducible assumption | omega) | (simp only [Bool.not_eq_true', Bool.not_eq_false', decide_eq_false_iff_not, decide_eq_true_eq]; omega) | (with_reducible assumption) | (rw [decide_eq_false] <;> (first | omega | with_reducible rfl)) | (rw [decide_eq_true] <;> (first | omega | with_reducible rfl)) | (simp; done) | (simp; omega)) ?_)
          | (refine z_skip (by decide) rfl rfl (by first | with_reducible rfl | ((with_reducible refine decide_eq_true ?_); first | with_reducible rfl | with_reducible assumption | omega) | ((with_reducible refine decide_eq_false ?_); first | with_reducible assumption | omega) | (simp only [Bool.not_eq_true', Bool.not_eq_false', decide_eq_false_iff_not, decide_eq_true_eq]; omega) | (with_reducible assumption) | (rw [decide_eq_false] <;> (first | omega | with_reducible rfl)) | (rw [decide_eq_true] <;> (first | omega | with_reducible rfl)) | (simp; done) | (simp; omega)) ?_)
          | refine z_skipu (by decide) rfl rfl ?_
          | refine z_guard1 (by decide) rfl rfl (fun hc => ?_) (fun hc => ?_)
          | refine z_guard0 (by decide) rfl rfl (fun hc => ?_) (fun hc => ?_)
          | refine z_guardb (by decide) rfl rfl (fun hc => ?_) (fun hc => ?_))
      | (refine z_isnil ?_; first
          | refine z_list ?_
          | refine z_mixed ?_
          | refine z_mono0 ?_
          | refine z_mono1 (by decide) fun g => ?_
          | refine z_mono2 (by decide) (by decide) fun g g' => ?_
          | refine z_mixedx ?_
          | refine z_quiet ?_)
      | (refine z_isop ?_; first
          | refine o_boxa rfl rfl (by decide) fun g => ?_
          | refine o_alloca (e := 26) (vs := bm (fun _ => 0)) rfl (by kernel_rfl) (by decide) fun g => ?_
          | refine o_alloca (e := 24) (vs := bm (fun _ => 0)) rfl (by kernel_rfl) (by decide) fun g => ?_
          | refine o_alloca (e := 23) (vs := bm (fun _ => 0)) rfl (by kernel_rfl) (by decide) fun g => ?_
          | refine o_alloca (e := 49) (vs := rm (fun _ => false)) rfl (by kernel_rfl) (by decide) fun g => ?_
          | (refine z_isbin ?_; first
              | (refine z_isb .add ?_; first
                  | refine o_add rfl rfl (by omega) (by omega) (by decide) ?_
                  | refine o_addw rfl rfl (by decide) ?_)
              | (refine z_isb .sub ?_; first
                  | refine o_sub rfl rfl (by omega) (by omega) (by decide) ?_
                  | refine o_subw rfl rfl (by decide) ?_)
              | (refine z_isb .mul ?_; first
                  | refine o_mul rfl rfl (by omega) (by omega) (by decide) ?_
                  | refine o_mulw rfl rfl (by decide) ?_)
              | (refine z_isb .eql ?_; first
                  | refine o_eq rfl rfl (by decide) ?_
                  | refine o_beq tabOk rfl rfl rfl (by decide) ?_
                  | refine o_peq tabOk rfl rfl (by decide) ?_)
              | (refine z_isb .neq ?_; first
                  | refine o_ne rfl rfl (by decide) ?_
                  | refine o_bne tabOk rfl rfl rfl (by decide) ?_
                  | refine o_pne tabOk rfl rfl (by decide) ?_)
              | (refine z_isb .lss ?_; first
                  | refine o_lt rfl rfl (by decide) ?_)
              | (refine z_isb .leq ?_; first
                  | refine o_le rfl rfl (by decide) ?_)
              | (refine z_isb .gtr ?_; first
                  | refine o_gt rfl rfl (by decide) ?_)
              | (refine z_isb .geq ?_; first
                  | refine o_ge rfl rfl (by decide) ?_)
              | (refine z_isb .quo ?_; first
                  | refine o_quo rfl rfl (by omega) (by omega) (by omega) (by decide) ?_
                  | refine o_quo8 rfl rfl (by omega) (by omega) (by omega) (by decide) ?_
                  | refine o_quot rfl rfl (by omega) (by decide) ?_)
              | (refine z_isb .rem ?_; first
                  | refine o_rem rfl rfl (by omega) (by omega) (by decide) ?_
                  | refine o_remk rfl rfl (by omega) (by omega) (by decide) ?_
                  | refine o_remt rfl rfl (by omega) (by decide) ?_)
              | (refine z_isb .and ?_; first
                  | refine o_and rfl rfl (by decide) ?_)
              | (refine z_isb .or ?_; first
                  | refine o_or rfl rfl (by decide) ?_)
              | (refine z_isb .andNot ?_; first
                  | refine o_andNot rfl rfl (by decide) ?_)
              | (refine z_isb .shl ?_; first
                  | refine o_shl rfl rfl (by omega) (by decide) ?_)
              | (refine z_isb .shr ?_; first
                  | refine o_shr rfl rfl (by omega) (by decide) ?_))
          | (refine z_isload ?_; first
              | (refine z_ld1 tabOk rfl rfl ?_; first
                  | ((refine z_ldi 0 rfl rfl ?_; refine o_load tabOk rfl rfl rfl 0 rfl (by first | exact bm_at _ (by omega) | exact rm_at _ (by omega) | rfl) (by decide) ?_))
                  | ((refine z_ldi 1 rfl rfl ?_; refine o_load tabOk rfl rfl rfl 1 rfl (by first | exact bm_at _ (by omega) | exact rm_at _ (by omega) | rfl) (by decide) ?_))
                  | ((refine z_ldi 2 rfl rfl ?_; refine o_load tabOk rfl rfl rfl 2 rfl (by first | exact bm_at _ (by omega) | exact rm_at _ (by omega) | rfl) (by decide) ?_))
                  | ((refine z_ldi 3 rfl rfl ?_; refine o_load tabOk rfl rfl rfl 3 rfl (by first | exact bm_at _ (by omega) | exact rm_at _ (by omega) | rfl) (by decide) ?_))
                  | ((refine z_ldi 4 rfl rfl ?_; refine o_load tabOk rfl rfl rfl 4 rfl (by first | exact bm_at _ (by omega) | exact rm_at _ (by omega) | rfl) (by decide) ?_))
                  | ((refine z_ldi 5 rfl rfl ?_; refine o_load tabOk rfl rfl rfl 5 rfl (by first | exact bm_at _ (by omega) | exact rm_at _ (by omega) | rfl) (by decide) ?_))
                  | ((refine z_ldi 6 rfl rfl ?_; refine o_load tabOk rfl rfl rfl 6 rfl (by first | exact bm_at _ (by omega) | exact rm_at _ (by omega) | rfl) (by decide) ?_))
                  | refine o_loads tabOk (by first | assumption | exact Rds.cons _ (by assumption) | exact Rds.cons _ (Rds.cons _ (by assumption)) | exact own_rds 0 rfl | exact own_rds 1 rfl | exact own_rds 2 rfl) rfl rfl rfl (by first | exact bm_at _ (by omega) | exact rm_at _ (by omega) | rfl) (by decide) ?_)
              | (refine z_ldw tabOk rfl rfl ?_; first
                  | ((refine z_ldi 0 rfl rfl ?_; refine o_loadw tabOk rfl rfl rfl 0 rfl (by first | exact bm_len _ | exact rm_len _ | (simp only [bm_len, rm_len]) | rfl) (by decide) ?_))
                  | ((refine z_ldi 1 rfl rfl ?_; refine o_loadw tabOk rfl rfl rfl 1 rfl (by first | exact bm_len _ | exact rm_len _ | (simp only [bm_len, rm_len]) | rfl) (by decide) ?_))
                  | ((refine z_ldi 2 rfl rfl ?_; refine o_loadw tabOk rfl rfl rfl 2 rfl (by first | exact bm_len _ | exact rm_len _ | (simp only [bm_len, rm_len]) | rfl) (by decide) ?_))
                  | ((refine z_ldi 3 rfl rfl ?_; refine o_loadw tabOk rfl rfl rfl 3 rfl (by first | exact bm_len _ | exact rm_len _ | (simp only [bm_len, rm_len]) | rfl) (by decide) ?_))
                  | ((refine z_ldi 4 rfl rfl ?_; refine o_loadw tabOk rfl rfl rfl 4 rfl (by first | exact bm_len _ | exact rm_len _ | (simp only [bm_len, rm_len]) | rfl) (by decide) ?_))
                  | ((refine z_ldi 5 rfl rfl ?_; refine o_loadw tabOk rfl rfl rfl 5 rfl (by first | exact bm_len _ | exact rm_len _ | (simp only [bm_len, rm_len]) | rfl) (by decide) ?_))
                  | ((refine z_ldi 6 rfl rfl ?_; refine o_loadw tabOk rfl rfl rfl 6 rfl (by first | exact bm_len _ | exact rm_len _ | (simp only [bm_len, rm_len]) | rfl) (by decide) ?_))))
          | (refine z_isstore ?_; first
              | (refine z_stw rfl ?_; first
                  | ((refine z_sti 0 rfl rfl ?_; refine o_storeb0 rfl tabOk rfl rfl rfl (by first | exact bm_len _ | exact rm_len _ | (simp only [bm_len, rm_len]) | rfl) (by first | exact bm_one _ | exact rm_one _ | rfl) (by first | exact bm_len _ | exact rm_len _ | (simp only [bm_len, rm_len]) | rfl) ?_))
                  | ((refine z_sti 1 rfl rfl ?_; refine o_storeb1 rfl tabOk rfl rfl rfl (by first | exact bm_len _ | exact rm_len _ | (simp only [bm_len, rm_len]) | rfl) (by first | exact bm_one _ | exact rm_one _ | rfl) (by first | exact bm_len _ | exact rm_len _ | (simp only [bm_len, rm_len]) | rfl) ?_))
                  | ((refine z_sti 2 rfl rfl ?_; refine o_storeb2 rfl tabOk rfl rfl rfl (by first | exact bm_len _ | exact rm_len _ | (simp only [bm_len, rm_len]) | rfl) (by first | exact bm_one _ | exact rm_one _ | rfl) (by first | exact bm_len _ | exact rm_len _ | (simp only [bm_len, rm_len]) | rfl) ?_))
                  | ((refine z_sti 3 rfl rfl ?_; refine o_storeb3 rfl tabOk rfl rfl rfl (by first | exact bm_len _ | exact rm_len _ | (simp only [bm_len, rm_len]) | rfl) (by first | exact bm_one _ | exact rm_one _ | rfl) (by first | exact bm_len _ | exact rm_len _ | (simp only [bm_len, rm_len]) | rfl) ?_))
                  | ((refine z_sti 4 rfl rfl ?_; refine o_storeb4 rfl tabOk rfl rfl rfl (by first | exact bm_len _ | exact rm_len _ | (simp only [bm_len, rm_len]) | rfl) (by first | exact bm_one _ | exact rm_one _ | rfl) (by first | exact bm_len _ | exact rm_len _ | (simp only [bm_len, rm_len]) | rfl) ?_))
                  | ((refine z_sti 5 rfl rfl ?_; refine o_storeb5 rfl tabOk rfl rfl rfl (by first | exact bm_len _ | exact rm_len _ | (simp only [bm_len, rm_len]) | rfl) (by first | exact bm_one _ | exact rm_one _ | rfl) (by first | exact bm_len _ | exact rm_len _ | (simp only [bm_len, rm_len]) | rfl) ?_))
                  | ((refine z_sti 6 rfl rfl ?_; refine o_storeb6 rfl tabOk rfl rfl rfl (by first | exact bm_len _ | exact rm_len _ | (simp only [bm_len, rm_len]) | rfl) (by first | exact bm_one _ | exact rm_one _ | rfl) (by first | exact bm_len _ | exact rm_len _ | (simp only [bm_len, rm_len]) | rfl) ?_)))
              | (refine z_st1 rfl rfl ?_; first
                  | refine o_store rfl tabOk rfl rfl rfl rfl rfl (by first | exact bm_at _ (by omega) | exact rm_at _ (by omega) | rfl) (by first | exact bm_set _ _ _ | exact rm_set _ _ _ | rfl) ?_
                  | ((refine z_sti 1 rfl rfl ?_; refine o_store1 rfl tabOk rfl rfl rfl rfl rfl (by first | exact bm_at _ (by omega) | exact rm_at _ (by omega) | rfl) (by first | exact bm_set _ _ _ | exact rm_set _ _ _ | rfl) ?_))
                  | ((refine z_sti 2 rfl rfl ?_; refine o_store2 rfl tabOk rfl rfl rfl rfl rfl (by first | exact bm_at _ (by omega) | exact rm_at _ (by omega) | rfl) (by first | exact bm_set _ _ _ | exact rm_set _ _ _ | rfl) ?_))
                  | ((refine z_sti 3 rfl rfl ?_; refine o_store3 rfl tabOk rfl rfl rfl rfl rfl (by first | exact bm_at _ (by omega) | exact rm_at _ (by omega) | rfl) (by first | exact bm_set _ _ _ | exact rm_set _ _ _ | rfl) ?_))
                  | ((refine z_sti 4 rfl rfl ?_; refine o_store4 rfl tabOk rfl rfl rfl rfl rfl (by first | exact bm_at _ (by omega) | exact rm_at _ (by omega) | rfl) (by first | exact bm_set _ _ _ | exact rm_set _ _ _ | rfl) ?_))
                  | ((refine z_sti 5 rfl rfl ?_; refine o_store5 rfl tabOk rfl rfl rfl rfl rfl (by first | exact bm_at _ (by omega) | exact rm_at _ (by omega) | rfl) (by first | exact bm_set _ _ _ | exact rm_set _ _ _ | rfl) ?_))
                  | ((refine z_sti 6 rfl rfl ?_; refine o_store6 rfl tabOk rfl rfl rfl rfl rfl (by first | exact bm_at _ (by omega) | exact rm_at _ (by omega) | rfl) (by first | exact bm_set _ _ _ | exact rm_set _ _ _ | rfl) ?_))))
          | (refine z_isfield ?_; first
              | refine o_fv tabOk rfl rfl rfl rfl rfl (by first | exact bm_at _ (by omega) | exact rm_at _ (by omega) | rfl) (by decide) ?_
              | refine o_fvw tabOk rfl rfl rfl rfl rfl (by first | exact bm_len _ | exact rm_len _ | (simp only [bm_len, rm_len]) | rfl) (by decide) ?_)
          | (refine z_isindex ?_; first
              | refine o_ixv tabOk rfl rfl rfl rfl rfl (by omega) (by omega) (by first | exact bm_at _ (by omega) | exact rm_at _ (by omega) | rfl) (by decide) ?_)
          | (refine z_ismakes ?_; first
              | refine o_make1 rfl tabOk zeroOk rfl rfl rfl rfl rfl (by decide) fun g => ?_)
          | (refine z_iscall ?_; first
              | ((refine z_iscallf 44 ?_; refine o_fn rfl Try.func44 rfl rfl rfl (in_fn _) (by decide) ?_))
              | ((refine z_iscallf 16 ?_; refine o_fn rfl Try.func16 rfl rfl rfl (has_fn _ (by assumption) _) (by decide) ?_)))
          | (refine z_ispick ?_; first
              | (refine o_pick1 rfl (by first | with_reducible rfl | ((with_reducible refine decide_eq_true ?_); first | with_reducible rfl | with_reducible assumption | omega) | (simp only [Bool.not_eq_true', decide_eq_false_iff_not]; omega) | (with_reducible assumption) | (rw [decide_eq_false] <;> (first | omega | with_reducible rfl)) | (rw [decide_eq_true] <;> (first | omega | with_reducible rfl)) | (simp; done) | (simp; omega)) rfl (by decide) ?_)
              | (refine o_pick0 rfl (by first | with_reducible rfl | ((with_reducible refine decide_eq_false ?_); first | with_reducible assumption | omega) | (simp only [Bool.not_eq_false', decide_eq_true_eq]; omega) | (with_reducible assumption) | (rw [decide_eq_false] <;> (first | omega | with_reducible rfl)) | (rw [decide_eq_true] <;> (first | omega | with_reducible rfl)) | (simp; done) | (simp; omega)) rfl (by decide) ?_))
          | (refine z_isix ?_; first
              | refine o_index0 tabOk rfl rfl rfl rfl (by omega) (by omega) (by decide) ?_
              | refine o_index1 tabOk rfl rfl rfl rfl (by omega) (by omega) (by decide) ?_
              | refine o_indexsk tabOk rfl rfl rfl rfl (by omega) (by omega) (by decide) ?_
              | refine o_indexs1 tabOk (by first | assumption) rfl rfl rfl rfl (by omega) (by omega) (by decide) ?_)
          | (refine z_isslice ?_; first
              | refine o_slice tabOk rfl rfl rfl rfl rfl (by omega) (by omega) (by omega) (by decide) ?_
              | refine o_slicel tabOk rfl rfl rfl rfl (by omega) (by omega) (by omega) (by decide) ?_
              | refine o_sliceh tabOk rfl rfl rfl rfl (by omega) (by omega) (by decide) ?_
              | refine o_slp tabOk rfl rfl rfl rfl rfl (by omega) (by omega) (by omega) (by omega) (by decide) ?_
              | refine o_slpl tabOk rfl rfl rfl rfl (by omega) (by omega) (by decide) ?_
              | refine o_slp0 tabOk rfl rfl rfl rfl (by decide) ?_)
          | (refine z_isbi ?_; first
              | refine o_len tabOk rfl rfl (by decide) ?_
              | refine o_min rfl rfl (by decide) ?_
              | refine o_max rfl rfl (by decide) ?_
              | refine o_append rfl tabOk zeroOk rfl rfl rfl rfl rfl rfl (by first | assumption | exact Rds.cons _ (by assumption) | exact Rds.cons _ (Rds.cons _ (by assumption)) | exact own_rds 0 rfl | exact own_rds 1 rfl | exact own_rds 2 rfl) (by first | rfl | simp) (by first | rfl | simp) (by omega) (by omega) (by decide) fun A' c' => ?_
              | (refine z_front rfl 1 rfl ?_; refine o_append rfl tabOk zeroOk rfl rfl rfl rfl rfl rfl (by first | assumption | exact Rds.cons _ (by assumption) | exact Rds.cons _ (Rds.cons _ (by assumption)) | exact own_rds 0 rfl | exact own_rds 1 rfl | exact own_rds 2 rfl) (by first | rfl | simp) (by first | rfl | simp) (by omega) (by omega) (by decide) fun A' c' => ?_)
              | (refine z_front rfl 2 rfl ?_; refine o_append rfl tabOk zeroOk rfl rfl rfl rfl rfl rfl (by first | assumption | exact Rds.cons _ (by assumption) | exact Rds.cons _ (Rds.cons _ (by assumption)) | exact own_rds 0 rfl | exact own_rds 1 rfl | exact own_rds 2 rfl) (by first | rfl | simp) (by first | rfl | simp) (by omega) (by omega) (by decide) fun A' c' => ?_)
              | (refine z_front rfl 3 rfl ?_; refine o_append rfl tabOk zeroOk rfl rfl rfl rfl rfl rfl (by first | assumption | exact Rds.cons _ (by assumption) | exact Rds.cons _ (Rds.cons _ (by assumption)) | exact own_rds 0 rfl | exact own_rds 1 rfl | exact own_rds 2 rfl) (by first | rfl | simp) (by first | rfl | simp) (by omega) (by omega) (by decide) fun A' c' => ?_)
              | (refine z_front rfl 4 rfl ?_; refine o_append rfl tabOk zeroOk rfl rfl rfl rfl rfl rfl (by first | assumption | exact Rds.cons _ (by assumption) | exact Rds.cons _ (Rds.cons _ (by assumption)) | exact own_rds 0 rfl | exact own_rds 1 rfl | exact own_rds 2 rfl) (by first | rfl | simp) (by first | rfl | simp) (by omega) (by omega) (by decide) fun A' c' => ?_)
              | (refine z_front rfl 5 rfl ?_; refine o_append rfl tabOk zeroOk rfl rfl rfl rfl rfl rfl (by first | assumption | exact Rds.cons _ (by assumption) | exact Rds.cons _ (Rds.cons _ (by assumption)) | exact own_rds 0 rfl | exact own_rds 1 rfl | exact own_rds 2 rfl) (by first | rfl | simp) (by first | rfl | simp) (by omega) (by omega) (by decide) fun A' c' => ?_))
          | refine o_move rfl (by decide) ?_
          | refine o_assign rfl (by decide) ?_
          | refine o_nil rfl (by decide) ?_
          | refine o_extract rfl rfl (by decide) ?_
          | refine o_not rfl (by decide) ?_
          | refine o_field0 tabOk rfl rfl rfl rfl rfl (by decide) ?_
          | refine o_field tabOk rfl rfl rfl rfl rfl (by decide) ?_
          | refine o_conv tabOk rfl rfl rfl (by decide) ?_))
  · rw [take_out h]
    repeat' (first
      | (refine s_is ?_; first
          | (refine s_isret ?_; first
              | exact p_r1 rfl (res_c tabOk rfl rfl rfl 0 rfl (bm_len _)))
          | (refine s_isw ?_; first
              | refine c_seq ?_
              | refine c_block ?_
              | refine c_region ?_
              | refine c_mixed mixed (by kernel_rfl) ?_
              | refine c_skip ?_
              | refine c_ret ?_
              | refine c_exit ?_
              | (refine s_iscond ?_; first
                  | (refine c_true rfl (by first | with_reducible rfl | ((with_reducible refine decide_eq_true ?_); first | with_reducible rfl | with_reducible assumption | omega) | (simp only [Bool.not_eq_true', decide_eq_false_iff_not]; omega) | (with_reducible assumption) | (rw [decide_eq_false] <;> (first | omega | with_reducible rfl)) | (rw [decide_eq_true] <;> (first | omega | with_reducible rfl)) | (simp; done) | (simp; omega)) ?_)
                  | (refine c_false rfl (by first | with_reducible rfl | ((with_reducible refine decide_eq_false ?_); first | with_reducible assumption | omega) | (simp only [Bool.not_eq_false', decide_eq_true_eq]; omega) | (with_reducible assumption) | (rw [decide_eq_false] <;> (first | omega | with_reducible rfl)) | (rw [decide_eq_true] <;> (first | omega | with_reducible rfl)) | (simp; done) | (simp; omega)) ?_)
                  | refine c_cond rfl (fun hc => ?_) (fun hc => ?_)
                  | refine c_condb rfl (fun hc => ?_) (fun hc => ?_)))
          | refine x_then ?_
          | refine x_then_ret ?_
          | refine x_then_exit ?_
          | refine x_block _ ?_
          | refine x_block_ret _ ?_
          | refine x_block_exit _ ?_
          | refine x_block_past (by decide) ?_
          | refine z_tailm ?_)
      | (refine z_isguard ?_; first
          | (refine z_want rfl rfl (by first | with_reducible rfl | ((with_reducible refine decide_eq_true ?_); first | with_reducible rfl | with_reducible assumption | omega) | ((with_reducible refine decide_eq_false ?_); first | with_reducible assumption | omega) | (simp only [Bool.not_eq_true', Bool.not_eq_false', decide_eq_false_iff_not, decide_eq_true_eq]; omega) | (with_reducible assumption) | (rw [decide_eq_false] <;> (first | omega | with_reducible rfl)) | (rw [decide_eq_true] <;> (first | omega | with_reducible rfl)) | (simp; done) | (simp; omega)) ?_)
          | (refine z_skip (by decide) rfl rfl (by first | with_reducible rfl | ((with_reducible refine decide_eq_true ?_); first | with_reducible rfl | with_reducible assumption | omega) | ((with_reducible refine decide_eq_false ?_); first | with_reducible assumption | omega) | (simp only [Bool.not_eq_true', Bool.not_eq_false', decide_eq_false_iff_not, decide_eq_true_eq]; omega) | (with_reducible assumption) | (rw [decide_eq_false] <;> (first | omega | with_reducible rfl)) | (rw [decide_eq_true] <;> (first | omega | with_reducible rfl)) | (simp; done) | (simp; omega)) ?_)
          | refine z_skipu (by decide) rfl rfl ?_
          | refine z_guard1 (by decide) rfl rfl (fun hc => ?_) (fun hc => ?_)
          | refine z_guard0 (by decide) rfl rfl (fun hc => ?_) (fun hc => ?_)
          | refine z_guardb (by decide) rfl rfl (fun hc => ?_) (fun hc => ?_))
      | (refine z_isnil ?_; first
          | refine z_list ?_
          | refine z_mixed ?_
          | refine z_mono0 ?_
          | refine z_mono1 (by decide) fun g => ?_
          | refine z_mono2 (by decide) (by decide) fun g g' => ?_
          | refine z_mixedx ?_
          | refine z_quiet ?_)
      | (refine z_isop ?_; first
          | refine o_boxa rfl rfl (by decide) fun g => ?_
          | refine o_alloca (e := 26) (vs := bm (fun _ => 0)) rfl (by kernel_rfl) (by decide) fun g => ?_
          | refine o_alloca (e := 24) (vs := bm (fun _ => 0)) rfl (by kernel_rfl) (by decide) fun g => ?_
          | refine o_alloca (e := 23) (vs := bm (fun _ => 0)) rfl (by kernel_rfl) (by decide) fun g => ?_
          | refine o_alloca (e := 49) (vs := rm (fun _ => false)) rfl (by kernel_rfl) (by decide) fun g => ?_
          | (refine z_isbin ?_; first
              | (refine z_isb .add ?_; first
                  | refine o_add rfl rfl (by omega) (by omega) (by decide) ?_
                  | refine o_addw rfl rfl (by decide) ?_)
              | (refine z_isb .sub ?_; first
                  | refine o_sub rfl rfl (by omega) (by omega) (by decide) ?_
                  | refine o_subw rfl rfl (by decide) ?_)
              | (refine z_isb .mul ?_; first
                  | refine o_mul rfl rfl (by omega) (by omega) (by decide) ?_
                  | refine o_mulw rfl rfl (by decide) ?_)
              | (refine z_isb .eql ?_; first
                  | refine o_eq rfl rfl (by decide) ?_
                  | refine o_beq tabOk rfl rfl rfl (by decide) ?_
                  | refine o_peq tabOk rfl rfl (by decide) ?_)
              | (refine z_isb .neq ?_; first
                  | refine o_ne rfl rfl (by decide) ?_
                  | refine o_bne tabOk rfl rfl rfl (by decide) ?_
                  | refine o_pne tabOk rfl rfl (by decide) ?_)
              | (refine z_isb .lss ?_; first
                  | refine o_lt rfl rfl (by decide) ?_)
              | (refine z_isb .leq ?_; first
                  | refine o_le rfl rfl (by decide) ?_)
              | (refine z_isb .gtr ?_; first
                  | refine o_gt rfl rfl (by decide) ?_)
              | (refine z_isb .geq ?_; first
                  | refine o_ge rfl rfl (by decide) ?_)
              | (refine z_isb .quo ?_; first
                  | refine o_quo rfl rfl (by omega) (by omega) (by omega) (by decide) ?_
                  | refine o_quo8 rfl rfl (by omega) (by omega) (by omega) (by decide) ?_
                  | refine o_quot rfl rfl (by omega) (by decide) ?_)
              | (refine z_isb .rem ?_; first
                  | refine o_rem rfl rfl (by omega) (by omega) (by decide) ?_
                  | refine o_remk rfl rfl (by omega) (by omega) (by decide) ?_
                  | refine o_remt rfl rfl (by omega) (by decide) ?_)
              | (refine z_isb .and ?_; first
                  | refine o_and rfl rfl (by decide) ?_)
              | (refine z_isb .or ?_; first
                  | refine o_or rfl rfl (by decide) ?_)
              | (refine z_isb .andNot ?_; first
                  | refine o_andNot rfl rfl (by decide) ?_)
              | (refine z_isb .shl ?_; first
                  | refine o_shl rfl rfl (by omega) (by decide) ?_)
              | (refine z_isb .shr ?_; first
                  | refine o_shr rfl rfl (by omega) (by decide) ?_))
          | (refine z_isload ?_; first
              | (refine z_ld1 tabOk rfl rfl ?_; first
                  | ((refine z_ldi 0 rfl rfl ?_; refine o_load tabOk rfl rfl rfl 0 rfl (by first | exact bm_at _ (by omega) | exact rm_at _ (by omega) | rfl) (by decide) ?_))
                  | ((refine z_ldi 1 rfl rfl ?_; refine o_load tabOk rfl rfl rfl 1 rfl (by first | exact bm_at _ (by omega) | exact rm_at _ (by omega) | rfl) (by decide) ?_))
                  | ((refine z_ldi 2 rfl rfl ?_; refine o_load tabOk rfl rfl rfl 2 rfl (by first | exact bm_at _ (by omega) | exact rm_at _ (by omega) | rfl) (by decide) ?_))
                  | ((refine z_ldi 3 rfl rfl ?_; refine o_load tabOk rfl rfl rfl 3 rfl (by first | exact bm_at _ (by omega) | exact rm_at _ (by omega) | rfl) (by decide) ?_))
                  | ((refine z_ldi 4 rfl rfl ?_; refine o_load tabOk rfl rfl rfl 4 rfl (by first | exact bm_at _ (by omega) | exact rm_at _ (by omega) | rfl) (by decide) ?_))
                  | ((refine z_ldi 5 rfl rfl ?_; refine o_load tabOk rfl rfl rfl 5 rfl (by first | exact bm_at _ (by omega) | exact rm_at _ (by omega) | rfl) (by decide) ?_))
                  | ((refine z_ldi 6 rfl rfl ?_; refine o_load tabOk rfl rfl rfl 6 rfl (by first | exact bm_at _ (by omega) | exact rm_at _ (by omega) | rfl) (by decide) ?_))
                  | refine o_loads tabOk (by first | assumption | exact Rds.cons _ (by assumption) | exact Rds.cons _ (Rds.cons _ (by assumption)) | exact own_rds 0 rfl | exact own_rds 1 rfl | exact own_rds 2 rfl) rfl rfl rfl (by first | exact bm_at _ (by omega) | exact rm_at _ (by omega) | rfl) (by decide) ?_)
              | (refine z_ldw tabOk rfl rfl ?_; first
                  | ((refine z_ldi 0 rfl rfl ?_; refine o_loadw tabOk rfl rfl rfl 0 rfl (by first | exact bm_len _ | exact rm_len _ | (simp only [bm_len, rm_len]) | rfl) (by decide) ?_))
                  | ((refine z_ldi 1 rfl rfl ?_; refine o_loadw tabOk rfl rfl rfl 1 rfl (by first | exact bm_len _ | exact rm_len _ | (simp only [bm_len, rm_len]) | rfl) (by decide) ?_))
                  | ((refine z_ldi 2 rfl rfl ?_; refine o_loadw tabOk rfl rfl rfl 2 rfl (by first | exact bm_len _ | exact rm_len _ | (simp only [bm_len, rm_len]) | rfl) (by decide) ?_))
                  | ((refine z_ldi 3 rfl rfl ?_; refine o_loadw tabOk rfl rfl rfl 3 rfl (by first | exact bm_len _ | exact rm_len _ | (simp only [bm_len, rm_len]) | rfl) (by decide) ?_))
                  | ((refine z_ldi 4 rfl rfl ?_; refine o_loadw tabOk rfl rfl rfl 4 rfl (by first | exact bm_len _ | exact rm_len _ | (simp only [bm_len, rm_len]) | rfl) (by decide) ?_))
                  | ((refine z_ldi 5 rfl rfl ?_; refine o_loadw tabOk rfl rfl rfl 5 rfl (by first | exact bm_len _ | exact rm_len _ | (simp only [bm_len, rm_len]) | rfl) (by decide) ?_))
                  | ((refine z_ldi 6 rfl rfl ?_; refine o_loadw tabOk rfl rfl rfl 6 rfl (by first | exact bm_len _ | exact rm_len _ | (simp only [bm_len, rm_len]) | rfl) (by decide) ?_))))
          | (refine z_isstore ?_; first
              | (refine z_stw rfl ?_; first
                  | ((refine z_sti 0 rfl rfl ?_; refine o_storeb0 rfl tabOk rfl rfl rfl (by first | exact bm_len _ | exact rm_len _ | (simp only [bm_len, rm_len]) | rfl) (by first | exact bm_one _ | exact rm_one _ | rfl) (by first | exact bm_len _ | exact rm_len _ | (simp only [bm_len, rm_len]) | rfl) ?_))
                  | ((refine z_sti 1 rfl rfl ?_; refine o_storeb1 rfl tabOk rfl rfl rfl (by first | exact bm_len _ | exact rm_len _ | (simp only [bm_len, rm_len]) | rfl) (by first | exact bm_one _ | exact rm_one _ | rfl) (by first | exact bm_len _ | exact rm_len _ | (simp only [bm_len, rm_len]) | rfl) ?_))
                  | ((refine z_sti 2 rfl rfl ?_; refine o_storeb2 rfl tabOk rfl rfl rfl (by first | exact bm_len _ | exact rm_len _ | (simp only [bm_len, rm_len]) | rfl) (by first | exact bm_one _ | exact rm_one _ | rfl) (by first | exact bm_len _ | exact rm_len _ | (simp only [bm_len, rm_len]) | rfl) ?_))
                  | ((refine z_sti 3 rfl rfl ?_; refine o_storeb3 rfl tabOk rfl rfl rfl (by first | exact bm_len _ | exact rm_len _ | (simp only [bm_len, rm_len]) | rfl) (by first | exact bm_one _ | exact rm_one _ | rfl) (by first | exact bm_len _ | exact rm_len _ | (simp only [bm_len, rm_len]) | rfl) ?_))
                  | ((refine z_sti 4 rfl rfl ?_; refine o_storeb4 rfl tabOk rfl rfl rfl (by first | exact bm_len _ | exact rm_len _ | (simp only [bm_len, rm_len]) | rfl) (by first | exact bm_one _ | exact rm_one _ | rfl) (by first | exact bm_len _ | exact rm_len _ | (simp only [bm_len, rm_len]) | rfl) ?_))
                  | ((refine z_sti 5 rfl rfl ?_; refine o_storeb5 rfl tabOk rfl rfl rfl (by first | exact bm_len _ | exact rm_len _ | (simp only [bm_len, rm_len]) | rfl) (by first | exact bm_one _ | exact rm_one _ | rfl) (by first | exact bm_len _ | exact rm_len _ | (simp only [bm_len, rm_len]) | rfl) ?_))
                  | ((refine z_sti 6 rfl rfl ?_; refine o_storeb6 rfl tabOk rfl rfl rfl (by first | exact bm_len _ | exact rm_len _ | (simp only [bm_len, rm_len]) | rfl) (by first | exact bm_one _ | exact rm_one _ | rfl) (by first | exact bm_len _ | exact rm_len _ | (simp only [bm_len, rm_len]) | rfl) ?_)))
              | (refine z_st1 rfl rfl ?_; first
                  | refine o_store rfl tabOk rfl rfl rfl rfl rfl (by first | exact bm_at _ (by omega) | exact rm_at _ (by omega) | rfl) (by first | exact bm_set _ _ _ | exact rm_set _ _ _ | rfl) ?_
                  | ((refine z_sti 1 rfl rfl ?_; refine o_store1 rfl tabOk rfl rfl rfl rfl rfl (by first | exact bm_at _ (by omega) | exact rm_at _ (by omega) | rfl) (by first | exact bm_set _ _ _ | exact rm_set _ _ _ | rfl) ?_))
                  | ((refine z_sti 2 rfl rfl ?_; refine o_store2 rfl tabOk rfl rfl rfl rfl rfl (by first | exact bm_at _ (by omega) | exact rm_at _ (by omega) | rfl) (by first | exact bm_set _ _ _ | exact rm_set _ _ _ | rfl) ?_))
                  | ((refine z_sti 3 rfl rfl ?_; refine o_store3 rfl tabOk rfl rfl rfl rfl rfl (by first | exact bm_at _ (by omega) | exact rm_at _ (by omega) | rfl) (by first | exact bm_set _ _ _ | exact rm_set _ _ _ | rfl) ?_))
                  | ((refine z_sti 4 rfl rfl ?_; refine o_store4 rfl tabOk rfl rfl rfl rfl rfl (by first | exact bm_at _ (by omega) | exact rm_at _ (by omega) | rfl) (by first | exact bm_set _ _ _ | exact rm_set _ _ _ | rfl) ?_))
                  | ((refine z_sti 5 rfl rfl ?_; refine o_store5 rfl tabOk rfl rfl rfl rfl rfl (by first | exact bm_at _ (by omega) | exact rm_at _ (by omega) | rfl) (by first | exact bm_set _ _ _ | exact rm_set _ _ _ | rfl) ?_))
                  | ((refine z_sti 6 rfl rfl ?_; refine o_store6 rfl tabOk rfl rfl rfl rfl rfl (by first | exact bm_at _ (by omega) | exact rm_at _ (by omega) | rfl) (by first | exact bm_set _ _ _ | exact rm_set _ _ _ | rfl) ?_))))
          | (refine z_isfield ?_; first
              | refine o_fv tabOk rfl rfl rfl rfl rfl (by first | exact bm_at _ (by omega) | exact rm_at _ (by omega) | rfl) (by decide) ?_
              | refine o_fvw tabOk rfl rfl rfl rfl rfl (by first | exact bm_len _ | exact rm_len _ | (simp only [bm_len, rm_len]) | rfl) (by decide) ?_)
          | (refine z_isindex ?_; first
              | refine o_ixv tabOk rfl rfl rfl rfl rfl (by omega) (by omega) (by first | exact bm_at _ (by omega) | exact rm_at _ (by omega) | rfl) (by decide) ?_)
          | (refine z_ismakes ?_; first
              | refine o_make1 rfl tabOk zeroOk rfl rfl rfl rfl rfl (by decide) fun g => ?_)
          | (refine z_iscall ?_; first
              | ((refine z_iscallf 44 ?_; refine o_fn rfl Try.func44 rfl rfl rfl (in_fn _) (by decide) ?_))
              | ((refine z_iscallf 16 ?_; refine o_fn rfl Try.func16 rfl rfl rfl (has_fn _ (by assumption) _) (by decide) ?_)))
          | (refine z_ispick ?_; first
              | (refine o_pick1 rfl (by first | with_reducible rfl | ((with_reducible refine decide_eq_true ?_); first | with_reducible rfl | with_reducible assumption | omega) | (simp only [Bool.not_eq_true', decide_eq_false_iff_not]; omega) | (with_reducible assumption) | (rw [decide_eq_false] <;> (first | omega | with_reducible rfl)) | (rw [decide_eq_true] <;> (first | omega | with_reducible rfl)) | (simp; done) | (simp; omega)) rfl (by decide) ?_)
              | (refine o_pick0 rfl (by first | with_reducible rfl | ((with_reducible refine decide_eq_false ?_); first | with_reducible assumption | omega) | (simp only [Bool.not_eq_false', decide_eq_true_eq]; omega) | (with_reducible assumption) | (rw [decide_eq_false] <;> (first | omega | with_reducible rfl)) | (rw [decide_eq_true] <;> (first | omega | with_reducible rfl)) | (simp; done) | (simp; omega)) rfl (by decide) ?_))
          | (refine z_isix ?_; first
              | refine o_index0 tabOk rfl rfl rfl rfl (by omega) (by omega) (by decide) ?_
              | refine o_index1 tabOk rfl rfl rfl rfl (by omega) (by omega) (by decide) ?_
              | refine o_indexsk tabOk rfl rfl rfl rfl (by omega) (by omega) (by decide) ?_
              | refine o_indexs1 tabOk (by first | assumption) rfl rfl rfl rfl (by omega) (by omega) (by decide) ?_)
          | (refine z_isslice ?_; first
              | refine o_slice tabOk rfl rfl rfl rfl rfl (by omega) (by omega) (by omega) (by decide) ?_
              | refine o_slicel tabOk rfl rfl rfl rfl (by omega) (by omega) (by omega) (by decide) ?_
              | refine o_sliceh tabOk rfl rfl rfl rfl (by omega) (by omega) (by decide) ?_
              | refine o_slp tabOk rfl rfl rfl rfl rfl (by omega) (by omega) (by omega) (by omega) (by decide) ?_
              | refine o_slpl tabOk rfl rfl rfl rfl (by omega) (by omega) (by decide) ?_
              | refine o_slp0 tabOk rfl rfl rfl rfl (by decide) ?_)
          | (refine z_isbi ?_; first
              | refine o_len tabOk rfl rfl (by decide) ?_
              | refine o_min rfl rfl (by decide) ?_
              | refine o_max rfl rfl (by decide) ?_
              | refine o_append rfl tabOk zeroOk rfl rfl rfl rfl rfl rfl (by first | assumption | exact Rds.cons _ (by assumption) | exact Rds.cons _ (Rds.cons _ (by assumption)) | exact own_rds 0 rfl | exact own_rds 1 rfl | exact own_rds 2 rfl) (by first | rfl | simp) (by first | rfl | simp) (by omega) (by omega) (by decide) fun A' c' => ?_
              | (refine z_front rfl 1 rfl ?_; refine o_append rfl tabOk zeroOk rfl rfl rfl rfl rfl rfl (by first | assumption | exact Rds.cons _ (by assumption) | exact Rds.cons _ (Rds.cons _ (by assumption)) | exact own_rds 0 rfl | exact own_rds 1 rfl | exact own_rds 2 rfl) (by first | rfl | simp) (by first | rfl | simp) (by omega) (by omega) (by decide) fun A' c' => ?_)
              | (refine z_front rfl 2 rfl ?_; refine o_append rfl tabOk zeroOk rfl rfl rfl rfl rfl rfl (by first | assumption | exact Rds.cons _ (by assumption) | exact Rds.cons _ (Rds.cons _ (by assumption)) | exact own_rds 0 rfl | exact own_rds 1 rfl | exact own_rds 2 rfl) (by first | rfl | simp) (by first | rfl | simp) (by omega) (by omega) (by decide) fun A' c' => ?_)
              | (refine z_front rfl 3 rfl ?_; refine o_append rfl tabOk zeroOk rfl rfl rfl rfl rfl rfl (by first | assumption | exact Rds.cons _ (by assumption) | exact Rds.cons _ (Rds.cons _ (by assumption)) | exact own_rds 0 rfl | exact own_rds 1 rfl | exact own_rds 2 rfl) (by first | rfl | simp) (by first | rfl | simp) (by omega) (by omega) (by decide) fun A' c' => ?_)
              | (refine z_front rfl 4 rfl ?_; refine o_append rfl tabOk zeroOk rfl rfl rfl rfl rfl rfl (by first | assumption | exact Rds.cons _ (by assumption) | exact Rds.cons _ (Rds.cons _ (by assumption)) | exact own_rds 0 rfl | exact own_rds 1 rfl | exact own_rds 2 rfl) (by first | rfl | simp) (by first | rfl | simp) (by omega) (by omega) (by decide) fun A' c' => ?_)
              | (refine z_front rfl 5 rfl ?_; refine o_append rfl tabOk zeroOk rfl rfl rfl rfl rfl rfl (by first | assumption | exact Rds.cons _ (by assumption) | exact Rds.cons _ (Rds.cons _ (by assumption)) | exact own_rds 0 rfl | exact own_rds 1 rfl | exact own_rds 2 rfl) (by first | rfl | simp) (by first | rfl | simp) (by omega) (by omega) (by decide) fun A' c' => ?_))
          | refine o_move rfl (by decide) ?_
          | refine o_assign rfl (by decide) ?_
          | refine o_nil rfl (by decide) ?_
          | refine o_extract rfl rfl (by decide) ?_
          | refine o_not rfl (by decide) ?_
          | refine o_field0 tabOk rfl rfl rfl rfl rfl (by decide) ?_
          | refine o_field tabOk rfl rfl rfl rfl rfl (by decide) ?_
          | refine o_conv tabOk rfl rfl rfl (by decide) ?_))
theorem free_fn (r : Nat → Int) (hr : By r) (i : Int) : Pf Try.prog 25 [.agg (bm r).toArray, .int .i64 i] (.agg (bm (takeB r i false)).toArray) := by
  intro w hw
  refine f_enter Try.func25 rfl Try.ntmps25 rfl hw ?_
  by_cases h : 0 ≤ i ∧ i < 512
  · rw [← free_in hr h]
    repeat' (first
      | (refine s_is ?_; first
          | (refine s_isret ?_; first
              | exact p_r1 rfl (res_c tabOk rfl rfl rfl 0 rfl (bm_len _)))
          | (refine s_isw ?_; first
              | refine c_seq ?_
              | refine c_block ?_
              | refine c_region ?_
              | refine c_mixed mixed (by kernel_rfl) ?_
              | refine c_skip ?_
              | refine c_ret ?_
              | refine c_exit ?_
              | (refine s_iscond ?_; first
                  | (refine c_true rfl (by first | with_reducible rfl | ((with_reducible refine decide_eq_true ?_); first | with_reducible rfl | with_reducible assumption | omega) | (simp only [Bool.not_eq_true', decide_eq_false_iff_not]; omega) | (with_reducible assumption) | (rw [decide_eq_false] <;> (first | omega | with_reducible rfl)) | (rw [decide_eq_true] <;> (first | omega | with_reducible rfl)) | (simp; done) | (simp; omega)) ?_)
                  | (refine c_false rfl (by first | with_reducible rfl | ((with_reducible refine decide_eq_false ?_); first | with_reducible assumption | omega) | (simp only [Bool.not_eq_false', decide_eq_true_eq]; omega) | (with_reducible assumption) | (rw [decide_eq_false] <;> (first | omega | with_reducible rfl)) | (rw [decide_eq_true] <;> (first | omega | with_reducible rfl)) | (simp; done) | (simp; omega)) ?_)
                  | refine c_cond rfl (fun hc => ?_) (fun hc => ?_)
                  | refine c_condb rfl (fun hc => ?_) (fun hc => ?_)))
          | refine x_then ?_
          | refine x_then_ret ?_
          | refine x_then_exit ?_
          | refine x_block _ ?_
          | refine x_block_ret _ ?_
          | refine x_block_exit _ ?_
          | refine x_block_past (by decide) ?_
          | refine z_tailm ?_)
      | (refine z_isguard ?_; first
          | (refine z_want rfl rfl (by first | with_reducible rfl | ((with_reducible refine decide_eq_true ?_); first | with_reducible rfl | with_reducible assumption | omega) | ((with_reducible refine decide_eq_false ?_); first | with_reducible assumption | omega) | (simp only [Bool.not_eq_true', Bool.not_eq_false', decide_eq_false_iff_not, decide_eq_true_eq]; omega) | (with_reducible assumption) | (rw [decide_eq_false] <;> (first | omega | with_reducible rfl)) | (rw [decide_eq_true] <;> (first | omega | with_reducible rfl)) | (simp; done) | (simp; omega)) ?_)
          | (refine z_skip (by decide) rfl rfl (by first | with_reducible rfl | ((with_reducible refine decide_eq_true ?_); first | with_reducible rfl | with_reducible assumption | omega) | ((with_reducible refine decide_eq_false ?_); first | with_reducible assumption | omega) | (simp only [Bool.not_eq_true', Bool.not_eq_false', decide_eq_false_iff_not, decide_eq_true_eq]; omega) | (with_reducible assumption) | (rw [decide_eq_false] <;> (first | omega | with_reducible rfl)) | (rw [decide_eq_true] <;> (first | omega | with_reducible rfl)) | (simp; done) | (simp; omega)) ?_)
          | refine z_skipu (by decide) rfl rfl ?_
          | refine z_guard1 (by decide) rfl rfl (fun hc => ?_) (fun hc => ?_)
          | refine z_guard0 (by decide) rfl rfl (fun hc => ?_) (fun hc => ?_)
          | refine z_guardb (by decide) rfl rfl (fun hc => ?_) (fun hc => ?_))
      | (refine z_isnil ?_; first
          | refine z_list ?_
          | refine z_mixed ?_
          | refine z_mono0 ?_
          | refine z_mono1 (by decide) fun g => ?_
          | refine z_mono2 (by decide) (by decide) fun g g' => ?_
          | refine z_mixedx ?_
          | refine z_quiet ?_)
      | (refine z_isop ?_; first
          | refine o_boxa rfl rfl (by decide) fun g => ?_
          | refine o_alloca (e := 26) (vs := bm (fun _ => 0)) rfl (by kernel_rfl) (by decide) fun g => ?_
          | refine o_alloca (e := 24) (vs := bm (fun _ => 0)) rfl (by kernel_rfl) (by decide) fun g => ?_
          | refine o_alloca (e := 23) (vs := bm (fun _ => 0)) rfl (by kernel_rfl) (by decide) fun g => ?_
          | refine o_alloca (e := 49) (vs := rm (fun _ => false)) rfl (by kernel_rfl) (by decide) fun g => ?_
          | (refine z_isbin ?_; first
              | (refine z_isb .add ?_; first
                  | refine o_add rfl rfl (by omega) (by omega) (by decide) ?_
                  | refine o_addw rfl rfl (by decide) ?_)
              | (refine z_isb .sub ?_; first
                  | refine o_sub rfl rfl (by omega) (by omega) (by decide) ?_
                  | refine o_subw rfl rfl (by decide) ?_)
              | (refine z_isb .mul ?_; first
                  | refine o_mul rfl rfl (by omega) (by omega) (by decide) ?_
                  | refine o_mulw rfl rfl (by decide) ?_)
              | (refine z_isb .eql ?_; first
                  | refine o_eq rfl rfl (by decide) ?_
                  | refine o_beq tabOk rfl rfl rfl (by decide) ?_
                  | refine o_peq tabOk rfl rfl (by decide) ?_)
              | (refine z_isb .neq ?_; first
                  | refine o_ne rfl rfl (by decide) ?_
                  | refine o_bne tabOk rfl rfl rfl (by decide) ?_
                  | refine o_pne tabOk rfl rfl (by decide) ?_)
              | (refine z_isb .lss ?_; first
                  | refine o_lt rfl rfl (by decide) ?_)
              | (refine z_isb .leq ?_; first
                  | refine o_le rfl rfl (by decide) ?_)
              | (refine z_isb .gtr ?_; first
                  | refine o_gt rfl rfl (by decide) ?_)
              | (refine z_isb .geq ?_; first
                  | refine o_ge rfl rfl (by decide) ?_)
              | (refine z_isb .quo ?_; first
                  | refine o_quo rfl rfl (by omega) (by omega) (by omega) (by decide) ?_
                  | refine o_quo8 rfl rfl (by omega) (by omega) (by omega) (by decide) ?_
                  | refine o_quot rfl rfl (by omega) (by decide) ?_)
              | (refine z_isb .rem ?_; first
                  | refine o_rem rfl rfl (by omega) (by omega) (by decide) ?_
                  | refine o_remk rfl rfl (by omega) (by omega) (by decide) ?_
                  | refine o_remt rfl rfl (by omega) (by decide) ?_)
              | (refine z_isb .and ?_; first
                  | refine o_and rfl rfl (by decide) ?_)
              | (refine z_isb .or ?_; first
                  | refine o_or rfl rfl (by decide) ?_)
              | (refine z_isb .andNot ?_; first
                  | refine o_andNot rfl rfl (by decide) ?_)
              | (refine z_isb .shl ?_; first
                  | refine o_shl rfl rfl (by omega) (by decide) ?_)
              | (refine z_isb .shr ?_; first
                  | refine o_shr rfl rfl (by omega) (by decide) ?_))
          | (refine z_isload ?_; first
              | (refine z_ld1 tabOk rfl rfl ?_; first
                  | ((refine z_ldi 0 rfl rfl ?_; refine o_load tabOk rfl rfl rfl 0 rfl (by first | exact bm_at _ (by omega) | exact rm_at _ (by omega) | rfl) (by decide) ?_))
                  | ((refine z_ldi 1 rfl rfl ?_; refine o_load tabOk rfl rfl rfl 1 rfl (by first | exact bm_at _ (by omega) | exact rm_at _ (by omega) | rfl) (by decide) ?_))
                  | ((refine z_ldi 2 rfl rfl ?_; refine o_load tabOk rfl rfl rfl 2 rfl (by first | exact bm_at _ (by omega) | exact rm_at _ (by omega) | rfl) (by decide) ?_))
                  | ((refine z_ldi 3 rfl rfl ?_; refine o_load tabOk rfl rfl rfl 3 rfl (by first | exact bm_at _ (by omega) | exact rm_at _ (by omega) | rfl) (by decide) ?_))
                  | ((refine z_ldi 4 rfl rfl ?_; refine o_load tabOk rfl rfl rfl 4 rfl (by first | exact bm_at _ (by omega) | exact rm_at _ (by omega) | rfl) (by decide) ?_))
                  | ((refine z_ldi 5 rfl rfl ?_; refine o_load tabOk rfl rfl rfl 5 rfl (by first | exact bm_at _ (by omega) | exact rm_at _ (by omega) | rfl) (by decide) ?_))
                  | ((refine z_ldi 6 rfl rfl ?_; refine o_load tabOk rfl rfl rfl 6 rfl (by first | exact bm_at _ (by omega) | exact rm_at _ (by omega) | rfl) (by decide) ?_))
                  | refine o_loads tabOk (by first | assumption | exact Rds.cons _ (by assumption) | exact Rds.cons _ (Rds.cons _ (by assumption)) | exact own_rds 0 rfl | exact own_rds 1 rfl | exact own_rds 2 rfl) rfl rfl rfl (by first | exact bm_at _ (by omega) | exact rm_at _ (by omega) | rfl) (by decide) ?_)
              | (refine z_ldw tabOk rfl rfl ?_; first
                  | ((refine z_ldi 0 rfl rfl ?_; refine o_loadw tabOk rfl rfl rfl 0 rfl (by first | exact bm_len _ | exact rm_len _ | (simp only [bm_len, rm_len]) | rfl) (by decide) ?_))
                  | ((refine z_ldi 1 rfl rfl ?_; refine o_loadw tabOk rfl rfl rfl 1 rfl (by first | exact bm_len _ | exact rm_len _ | (simp only [bm_len, rm_len]) | rfl) (by decide) ?_))
                  | ((refine z_ldi 2 rfl rfl ?_; refine o_loadw tabOk rfl rfl rfl 2 rfl (by first | exact bm_len _ | exact rm_len _ | (simp only [bm_len, rm_len]) | rfl) (by decide) ?_))
                  | ((refine z_ldi 3 rfl rfl ?_; refine o_loadw tabOk rfl rfl rfl 3 rfl (by first | exact bm_len _ | exact rm_len _ | (simp only [bm_len, rm_len]) | rfl) (by decide) ?_))
                  | ((refine z_ldi 4 rfl rfl ?_; refine o_loadw tabOk rfl rfl rfl 4 rfl (by first | exact bm_len _ | exact rm_len _ | (simp only [bm_len, rm_len]) | rfl) (by decide) ?_))
                  | ((refine z_ldi 5 rfl rfl ?_; refine o_loadw tabOk rfl rfl rfl 5 rfl (by first | exact bm_len _ | exact rm_len _ | (simp only [bm_len, rm_len]) | rfl) (by decide) ?_))
                  | ((refine z_ldi 6 rfl rfl ?_; refine o_loadw tabOk rfl rfl rfl 6 rfl (by first | exact bm_len _ | exact rm_len _ | (simp only [bm_len, rm_len]) | rfl) (by decide) ?_))))
          | (refine z_isstore ?_; first
              | (refine z_stw rfl ?_; first
                  | ((refine z_sti 0 rfl rfl ?_; refine o_storeb0 rfl tabOk rfl rfl rfl (by first | exact bm_len _ | exact rm_len _ | (simp only [bm_len, rm_len]) | rfl) (by first | exact bm_one _ | exact rm_one _ | rfl) (by first | exact bm_len _ | exact rm_len _ | (simp only [bm_len, rm_len]) | rfl) ?_))
                  | ((refine z_sti 1 rfl rfl ?_; refine o_storeb1 rfl tabOk rfl rfl rfl (by first | exact bm_len _ | exact rm_len _ | (simp only [bm_len, rm_len]) | rfl) (by first | exact bm_one _ | exact rm_one _ | rfl) (by first | exact bm_len _ | exact rm_len _ | (simp only [bm_len, rm_len]) | rfl) ?_))
                  | ((refine z_sti 2 rfl rfl ?_; refine o_storeb2 rfl tabOk rfl rfl rfl (by first | exact bm_len _ | exact rm_len _ | (simp only [bm_len, rm_len]) | rfl) (by first | exact bm_one _ | exact rm_one _ | rfl) (by first | exact bm_len _ | exact rm_len _ | (simp only [bm_len, rm_len]) | rfl) ?_))
                  | ((refine z_sti 3 rfl rfl ?_; refine o_storeb3 rfl tabOk rfl rfl rfl (by first | exact bm_len _ | exact rm_len _ | (simp only [bm_len, rm_len]) | rfl) (by first | exact bm_one _ | exact rm_one _ | rfl) (by first | exact bm_len _ | exact rm_len _ | (simp only [bm_len, rm_len]) | rfl) ?_))
                  | ((refine z_sti 4 rfl rfl ?_; refine o_storeb4 rfl tabOk rfl rfl rfl (by first | exact bm_len _ | exact rm_len _ | (simp only [bm_len, rm_len]) | rfl) (by first | exact bm_one _ | exact rm_one _ | rfl) (by first | exact bm_len _ | exact rm_len _ | (simp only [bm_len, rm_len]) | rfl) ?_))
                  | ((refine z_sti 5 rfl rfl ?_; refine o_storeb5 rfl tabOk rfl rfl rfl (by first | exact bm_len _ | exact rm_len _ | (simp only [bm_len, rm_len]) | rfl) (by first | exact bm_one _ | exact rm_one _ | rfl) (by first | exact bm_len _ | exact rm_len _ | (simp only [bm_len, rm_len]) | rfl) ?_))
                  | ((refine z_sti 6 rfl rfl ?_; refine o_storeb6 rfl tabOk rfl rfl rfl (by first | exact bm_len _ | exact rm_len _ | (simp only [bm_len, rm_len]) | rfl) (by first | exact bm_one _ | exact rm_one _ | rfl) (by first | exact bm_len _ | exact rm_len _ | (simp only [bm_len, rm_len]) | rfl) ?_)))
              | (refine z_st1 rfl rfl ?_; first
                  | refine o_store rfl tabOk rfl rfl rfl rfl rfl (by first | exact bm_at _ (by omega) | exact rm_at _ (by omega) | rfl) (by first | exact bm_set _ _ _ | exact rm_set _ _ _ | rfl) ?_
                  | ((refine z_sti 1 rfl rfl ?_; refine o_store1 rfl tabOk rfl rfl rfl rfl rfl (by first | exact bm_at _ (by omega) | exact rm_at _ (by omega) | rfl) (by first | exact bm_set _ _ _ | exact rm_set _ _ _ | rfl) ?_))
                  | ((refine z_sti 2 rfl rfl ?_; refine o_store2 rfl tabOk rfl rfl rfl rfl rfl (by first | exact bm_at _ (by omega) | exact rm_at _ (by omega) | rfl) (by first | exact bm_set _ _ _ | exact rm_set _ _ _ | rfl) ?_))
                  | ((refine z_sti 3 rfl rfl ?_; refine o_store3 rfl tabOk rfl rfl rfl rfl rfl (by first | exact bm_at _ (by omega) | exact rm_at _ (by omega) | rfl) (by first | exact bm_set _ _ _ | exact rm_set _ _ _ | rfl) ?_))
                  | ((refine z_sti 4 rfl rfl ?_; refine o_store4 rfl tabOk rfl rfl rfl rfl rfl (by first | exact bm_at _ (by omega) | exact rm_at _ (by omega) | rfl) (by first | exact bm_set _ _ _ | exact rm_set _ _ _ | rfl) ?_))
                  | ((refine z_sti 5 rfl rfl ?_; refine o_store5 rfl tabOk rfl rfl rfl rfl rfl (by first | exact bm_at _ (by omega) | exact rm_at _ (by omega) | rfl) (by first | exact bm_set _ _ _ | exact rm_set _ _ _ | rfl) ?_))
                  | ((refine z_sti 6 rfl rfl ?_; refine o_store6 rfl tabOk rfl rfl rfl rfl rfl (by first | exact bm_at _ (by omega) | exact rm_at _ (by omega) | rfl) (by first | exact bm_set _ _ _ | exact rm_set _ _ _ | rfl) ?_))))
          | (refine z_isfield ?_; first
              | refine o_fv tabOk rfl rfl rfl rfl rfl (by first | exact bm_at _ (by omega) | exact rm_at _ (by omega) | rfl) (by decide) ?_
              | refine o_fvw tabOk rfl rfl rfl rfl rfl (by first | exact bm_len _ | exact rm_len _ | (simp only [bm_len, rm_len]) | rfl) (by decide) ?_)
          | (refine z_isindex ?_; first
              | refine o_ixv tabOk rfl rfl rfl rfl rfl (by omega) (by omega) (by first | exact bm_at _ (by omega) | exact rm_at _ (by omega) | rfl) (by decide) ?_)
          | (refine z_ismakes ?_; first
              | refine o_make1 rfl tabOk zeroOk rfl rfl rfl rfl rfl (by decide) fun g => ?_)
          | (refine z_iscall ?_; first
              | ((refine z_iscallf 44 ?_; refine o_fn rfl Try.func44 rfl rfl rfl (in_fn _) (by decide) ?_))
              | ((refine z_iscallf 16 ?_; refine o_fn rfl Try.func16 rfl rfl rfl (has_fn _ (by assumption) _) (by decide) ?_)))
          | (refine z_ispick ?_; first
              | (refine o_pick1 rfl (by first | with_reducible rfl | ((with_reducible refine decide_eq_true ?_); first | with_reducible rfl | with_reducible assumption | omega) | (simp only [Bool.not_eq_true', decide_eq_false_iff_not]; omega) | (with_reducible assumption) | (rw [decide_eq_false] <;> (first | omega | with_reducible rfl)) | (rw [decide_eq_true] <;> (first | omega | with_reducible rfl)) | (simp; done) | (simp; omega)) rfl (by decide) ?_)
              | (refine o_pick0 rfl (by first | with_reducible rfl | ((with_reducible refine decide_eq_false ?_); first | with_reducible assumption | omega) | (simp only [Bool.not_eq_false', decide_eq_true_eq]; omega) | (with_reducible assumption) | (rw [decide_eq_false] <;> (first | omega | with_reducible rfl)) | (rw [decide_eq_true] <;> (first | omega | with_reducible rfl)) | (simp; done) | (simp; omega)) rfl (by decide) ?_))
          | (refine z_isix ?_; first
              | refine o_index0 tabOk rfl rfl rfl rfl (by omega) (by omega) (by decide) ?_
              | refine o_index1 tabOk rfl rfl rfl rfl (by omega) (by omega) (by decide) ?_
              | refine o_indexsk tabOk rfl rfl rfl rfl (by omega) (by omega) (by decide) ?_
              | refine o_indexs1 tabOk (by first | assumption) rfl rfl rfl rfl (by omega) (by omega) (by decide) ?_)
          | (refine z_isslice ?_; first
              | refine o_slice tabOk rfl rfl rfl rfl rfl (by omega) (by omega) (by omega) (by decide) ?_
              | refine o_slicel tabOk rfl rfl rfl rfl (by omega) (by omega) (by omega) (by decide) ?_
              | refine o_sliceh tabOk rfl rfl rfl rfl (by omega) (by omega) (by decide) ?_
              | refine o_slp tabOk rfl rfl rfl rfl rfl (by omega) (by omega) (by omega) (by omega) (by decide) ?_
              | refine o_slpl tabOk rfl rfl rfl rfl (by omega) (by omega) (by decide) ?_
              | refine o_slp0 tabOk rfl rfl rfl rfl (by decide) ?_)
          | (refine z_isbi ?_; first
              | refine o_len tabOk rfl rfl (by decide) ?_
              | refine o_min rfl rfl (by decide) ?_
              | refine o_max rfl rfl (by decide) ?_
              | refine o_append rfl tabOk zeroOk rfl rfl rfl rfl rfl rfl (by first | assumption | exact Rds.cons _ (by assumption) | exact Rds.cons _ (Rds.cons _ (by assumption)) | exact own_rds 0 rfl | exact own_rds 1 rfl | exact own_rds 2 rfl) (by first | rfl | simp) (by first | rfl | simp) (by omega) (by omega) (by decide) fun A' c' => ?_
              | (refine z_front rfl 1 rfl ?_; refine o_append rfl tabOk zeroOk rfl rfl rfl rfl rfl rfl (by first | assumption | exact Rds.cons _ (by assumption) | exact Rds.cons _ (Rds.cons _ (by assumption)) | exact own_rds 0 rfl | exact own_rds 1 rfl | exact own_rds 2 rfl) (by first | rfl | simp) (by first | rfl | simp) (by omega) (by omega) (by decide) fun A' c' => ?_)
              | (refine z_front rfl 2 rfl ?_; refine o_append rfl tabOk zeroOk rfl rfl rfl rfl rfl rfl (by first | assumption | exact Rds.cons _ (by assumption) | exact Rds.cons _ (Rds.cons _ (by assumption)) | exact own_rds 0 rfl | exact own_rds 1 rfl | exact own_rds 2 rfl) (by first | rfl | simp) (by first | rfl | simp) (by omega) (by omega) (by decide) fun A' c' => ?_)
              | (refine z_front rfl 3 rfl ?_; refine o_append rfl tabOk zeroOk rfl rfl rfl rfl rfl rfl (by first | assumption | exact Rds.cons _ (by assumption) | exact Rds.cons _ (Rds.cons _ (by assumption)) | exact own_rds 0 rfl | exact own_rds 1 rfl | exact own_rds 2 rfl) (by first | rfl | simp) (by first | rfl | simp) (by omega) (by omega) (by decide) fun A' c' => ?_)
              | (refine z_front rfl 4 rfl ?_; refine o_append rfl tabOk zeroOk rfl rfl rfl rfl rfl rfl (by first | assumption | exact Rds.cons _ (by assumption) | exact Rds.cons _ (Rds.cons _ (by assumption)) | exact own_rds 0 rfl | exact own_rds 1 rfl | exact own_rds 2 rfl) (by first | rfl | simp) (by first | rfl | simp) (by omega) (by omega) (by decide) fun A' c' => ?_)
              | (refine z_front rfl 5 rfl ?_; refine o_append rfl tabOk zeroOk rfl rfl rfl rfl rfl rfl (by first | assumption | exact Rds.cons _ (by assumption) | exact Rds.cons _ (Rds.cons _ (by assumption)) | exact own_rds 0 rfl | exact own_rds 1 rfl | exact own_rds 2 rfl) (by first | rfl | simp) (by first | rfl | simp) (by omega) (by omega) (by decide) fun A' c' => ?_))
          | refine o_move rfl (by decide) ?_
          | refine o_assign rfl (by decide) ?_
          | refine o_nil rfl (by decide) ?_
          | refine o_extract rfl rfl (by decide) ?_
          | refine o_not rfl (by decide) ?_
          | refine o_field0 tabOk rfl rfl rfl rfl rfl (by decide) ?_
          | refine o_field tabOk rfl rfl rfl rfl rfl (by decide) ?_
          | refine o_conv tabOk rfl rfl rfl (by decide) ?_))
  · rw [take_out h]
    repeat' (first
      | (refine s_is ?_; first
          | (refine s_isret ?_; first
              | exact p_r1 rfl (res_c tabOk rfl rfl rfl 0 rfl (bm_len _)))
          | (refine s_isw ?_; first
              | refine c_seq ?_
              | refine c_block ?_
              | refine c_region ?_
              | refine c_mixed mixed (by kernel_rfl) ?_
              | refine c_skip ?_
              | refine c_ret ?_
              | refine c_exit ?_
              | (refine s_iscond ?_; first
                  | (refine c_true rfl (by first | with_reducible rfl | ((with_reducible refine decide_eq_true ?_); first | with_reducible rfl | with_reducible assumption | omega) | (simp only [Bool.not_eq_true', decide_eq_false_iff_not]; omega) | (with_reducible assumption) | (rw [decide_eq_false] <;> (first | omega | with_reducible rfl)) | (rw [decide_eq_true] <;> (first | omega | with_reducible rfl)) | (simp; done) | (simp; omega)) ?_)
                  | (refine c_false rfl (by first | with_reducible rfl | ((with_reducible refine decide_eq_false ?_); first | with_reducible assumption | omega) | (simp only [Bool.not_eq_false', decide_eq_true_eq]; omega) | (with_reducible assumption) | (rw [decide_eq_false] <;> (first | omega | with_reducible rfl)) | (rw [decide_eq_true] <;> (first | omega | with_reducible rfl)) | (simp; done) | (simp; omega)) ?_)
                  | refine c_cond rfl (fun hc => ?_) (fun hc => ?_)
                  | refine c_condb rfl (fun hc => ?_) (fun hc => ?_)))
          | refine x_then ?_
          | refine x_then_ret ?_
          | refine x_then_exit ?_
          | refine x_block _ ?_
          | refine x_block_ret _ ?_
          | refine x_block_exit _ ?_
          | refine x_block_past (by decide) ?_
          | refine z_tailm ?_)
      | (refine z_isguard ?_; first
          | (refine z_want rfl rfl (by first | with_reducible rfl | ((with_reducible refine decide_eq_true ?_); first | with_reducible rfl | with_reducible assumption | omega) | ((with_reducible refine decide_eq_false ?_); first | with_reducible assumption | omega) | (simp only [Bool.not_eq_true', Bool.not_eq_false', decide_eq_false_iff_not, decide_eq_true_eq]; omega) | (with_reducible assumption) | (rw [decide_eq_false] <;> (first | omega | with_reducible rfl)) | (rw [decide_eq_true] <;> (first | omega | with_reducible rfl)) | (simp; done) | (simp; omega)) ?_)
          | (refine z_skip (by decide) rfl rfl (by first | with_reducible rfl | ((with_reducible refine decide_eq_true ?_); first | with_reducible rfl | with_reducible assumption | omega) | ((with_reducible refine decide_eq_false ?_); first | with_reducible assumption | omega) | (simp only [Bool.not_eq_true', Bool.not_eq_false', decide_eq_false_iff_not, decide_eq_true_eq]; omega) | (with_reducible assumption) | (rw [decide_eq_false] <;> (first | omega | with_reducible rfl)) | (rw [decide_eq_true] <;> (first | omega | with_reducible rfl)) | (simp; done) | (simp; omega)) ?_)
          | refine z_skipu (by decide) rfl rfl ?_
          | refine z_guard1 (by decide) rfl rfl (fun hc => ?_) (fun hc => ?_)
          | refine z_guard0 (by decide) rfl rfl (fun hc => ?_) (fun hc => ?_)
          | refine z_guardb (by decide) rfl rfl (fun hc => ?_) (fun hc => ?_))
      | (refine z_isnil ?_; first
          | refine z_list ?_
          | refine z_mixed ?_
          | refine z_mono0 ?_
          | refine z_mono1 (by decide) fun g => ?_
          | refine z_mono2 (by decide) (by decide) fun g g' => ?_
          | refine z_mixedx ?_
          | refine z_quiet ?_)
      | (refine z_isop ?_; first
          | refine o_boxa rfl rfl (by decide) fun g => ?_
          | refine o_alloca (e := 26) (vs := bm (fun _ => 0)) rfl (by kernel_rfl) (by decide) fun g => ?_
          | refine o_alloca (e := 24) (vs := bm (fun _ => 0)) rfl (by kernel_rfl) (by decide) fun g => ?_
          | refine o_alloca (e := 23) (vs := bm (fun _ => 0)) rfl (by kernel_rfl) (by decide) fun g => ?_
          | refine o_alloca (e := 49) (vs := rm (fun _ => false)) rfl (by kernel_rfl) (by decide) fun g => ?_
          | (refine z_isbin ?_; first
              | (refine z_isb .add ?_; first
                  | refine o_add rfl rfl (by omega) (by omega) (by decide) ?_
                  | refine o_addw rfl rfl (by decide) ?_)
              | (refine z_isb .sub ?_; first
                  | refine o_sub rfl rfl (by omega) (by omega) (by decide) ?_
                  | refine o_subw rfl rfl (by decide) ?_)
              | (refine z_isb .mul ?_; first
                  | refine o_mul rfl rfl (by omega) (by omega) (by decide) ?_
                  | refine o_mulw rfl rfl (by decide) ?_)
              | (refine z_isb .eql ?_; first
                  | refine o_eq rfl rfl (by decide) ?_
                  | refine o_beq tabOk rfl rfl rfl (by decide) ?_
                  | refine o_peq tabOk rfl rfl (by decide) ?_)
              | (refine z_isb .neq ?_; first
                  | refine o_ne rfl rfl (by decide) ?_
                  | refine o_bne tabOk rfl rfl rfl (by decide) ?_
                  | refine o_pne tabOk rfl rfl (by decide) ?_)
              | (refine z_isb .lss ?_; first
                  | refine o_lt rfl rfl (by decide) ?_)
              | (refine z_isb .leq ?_; first
                  | refine o_le rfl rfl (by decide) ?_)
              | (refine z_isb .gtr ?_; first
                  | refine o_gt rfl rfl (by decide) ?_)
              | (refine z_isb .geq ?_; first
                  | refine o_ge rfl rfl (by decide) ?_)
              | (refine z_isb .quo ?_; first
                  | refine o_quo rfl rfl (by omega) (by omega) (by omega) (by decide) ?_
                  | refine o_quo8 rfl rfl (by omega) (by omega) (by omega) (by decide) ?_
                  | refine o_quot rfl rfl (by omega) (by decide) ?_)
              | (refine z_isb .rem ?_; first
                  | refine o_rem rfl rfl (by omega) (by omega) (by decide) ?_
                  | refine o_remk rfl rfl (by omega) (by omega) (by decide) ?_
                  | refine o_remt rfl rfl (by omega) (by decide) ?_)
              | (refine z_isb .and ?_; first
                  | refine o_and rfl rfl (by decide) ?_)
              | (refine z_isb .or ?_; first
                  | refine o_or rfl rfl (by decide) ?_)
              | (refine z_isb .andNot ?_; first
                  | refine o_andNot rfl rfl (by decide) ?_)
              | (refine z_isb .shl ?_; first
                  | refine o_shl rfl rfl (by omega) (by decide) ?_)
              | (refine z_isb .shr ?_; first
                  | refine o_shr rfl rfl (by omega) (by decide) ?_))
          | (refine z_isload ?_; first
              | (refine z_ld1 tabOk rfl rfl ?_; first
                  | ((refine z_ldi 0 rfl rfl ?_; refine o_load tabOk rfl rfl rfl 0 rfl (by first | exact bm_at _ (by omega) | exact rm_at _ (by omega) | rfl) (by decide) ?_))
                  | ((refine z_ldi 1 rfl rfl ?_; refine o_load tabOk rfl rfl rfl 1 rfl (by first | exact bm_at _ (by omega) | exact rm_at _ (by omega) | rfl) (by decide) ?_))
                  | ((refine z_ldi 2 rfl rfl ?_; refine o_load tabOk rfl rfl rfl 2 rfl (by first | exact bm_at _ (by omega) | exact rm_at _ (by omega) | rfl) (by decide) ?_))
                  | ((refine z_ldi 3 rfl rfl ?_; refine o_load tabOk rfl rfl rfl 3 rfl (by first | exact bm_at _ (by omega) | exact rm_at _ (by omega) | rfl) (by decide) ?_))
                  | ((refine z_ldi 4 rfl rfl ?_; refine o_load tabOk rfl rfl rfl 4 rfl (by first | exact bm_at _ (by omega) | exact rm_at _ (by omega) | rfl) (by decide) ?_))
                  | ((refine z_ldi 5 rfl rfl ?_; refine o_load tabOk rfl rfl rfl 5 rfl (by first | exact bm_at _ (by omega) | exact rm_at _ (by omega) | rfl) (by decide) ?_))
                  | ((refine z_ldi 6 rfl rfl ?_; refine o_load tabOk rfl rfl rfl 6 rfl (by first | exact bm_at _ (by omega) | exact rm_at _ (by omega) | rfl) (by decide) ?_))
                  | refine o_loads tabOk (by first | assumption | exact Rds.cons _ (by assumption) | exact Rds.cons _ (Rds.cons _ (by assumption)) | exact own_rds 0 rfl | exact own_rds 1 rfl | exact own_rds 2 rfl) rfl rfl rfl (by first | exact bm_at _ (by omega) | exact rm_at _ (by omega) | rfl) (by decide) ?_)
              | (refine z_ldw tabOk rfl rfl ?_; first
                  | ((refine z_ldi 0 rfl rfl ?_; refine o_loadw tabOk rfl rfl rfl 0 rfl (by first | exact bm_len _ | exact rm_len _ | (simp only [bm_len, rm_len]) | rfl) (by decide) ?_))
                  | ((refine z_ldi 1 rfl rfl ?_; refine o_loadw tabOk rfl rfl rfl 1 rfl (by first | exact bm_len _ | exact rm_len _ | (simp only [bm_len, rm_len]) | rfl) (by decide) ?_))
                  | ((refine z_ldi 2 rfl rfl ?_; refine o_loadw tabOk rfl rfl rfl 2 rfl (by first | exact bm_len _ | exact rm_len _ | (simp only [bm_len, rm_len]) | rfl) (by decide) ?_))
                  | ((refine z_ldi 3 rfl rfl ?_; refine o_loadw tabOk rfl rfl rfl 3 rfl (by first | exact bm_len _ | exact rm_len _ | (simp only [bm_len, rm_len]) | rfl) (by decide) ?_))
                  | ((refine z_ldi 4 rfl rfl ?_; refine o_loadw tabOk rfl rfl rfl 4 rfl (by first | exact bm_len _ | exact rm_len _ | (simp only [bm_len, rm_len]) | rfl) (by decide) ?_))
                  | ((refine z_ldi 5 rfl rfl ?_; refine o_loadw tabOk rfl rfl rfl 5 rfl (by first | exact bm_len _ | exact rm_len _ | (simp only [bm_len, rm_len]) | rfl) (by decide) ?_))
                  | ((refine z_ldi 6 rfl rfl ?_; refine o_loadw tabOk rfl rfl rfl 6 rfl (by first | exact bm_len _ | exact rm_len _ | (simp only [bm_len, rm_len]) | rfl) (by decide) ?_))))
          | (refine z_isstore ?_; first
              | (refine z_stw rfl ?_; first
                  | ((refine z_sti 0 rfl rfl ?_; refine o_storeb0 rfl tabOk rfl rfl rfl (by first | exact bm_len _ | exact rm_len _ | (simp only [bm_len, rm_len]) | rfl) (by first | exact bm_one _ | exact rm_one _ | rfl) (by first | exact bm_len _ | exact rm_len _ | (simp only [bm_len, rm_len]) | rfl) ?_))
                  | ((refine z_sti 1 rfl rfl ?_; refine o_storeb1 rfl tabOk rfl rfl rfl (by first | exact bm_len _ | exact rm_len _ | (simp only [bm_len, rm_len]) | rfl) (by first | exact bm_one _ | exact rm_one _ | rfl) (by first | exact bm_len _ | exact rm_len _ | (simp only [bm_len, rm_len]) | rfl) ?_))
                  | ((refine z_sti 2 rfl rfl ?_; refine o_storeb2 rfl tabOk rfl rfl rfl (by first | exact bm_len _ | exact rm_len _ | (simp only [bm_len, rm_len]) | rfl) (by first | exact bm_one _ | exact rm_one _ | rfl) (by first | exact bm_len _ | exact rm_len _ | (simp only [bm_len, rm_len]) | rfl) ?_))
                  | ((refine z_sti 3 rfl rfl ?_; refine o_storeb3 rfl tabOk rfl rfl rfl (by first | exact bm_len _ | exact rm_len _ | (simp only [bm_len, rm_len]) | rfl) (by first | exact bm_one _ | exact rm_one _ | rfl) (by first | exact bm_len _ | exact rm_len _ | (simp only [bm_len, rm_len]) | rfl) ?_))
                  | ((refine z_sti 4 rfl rfl ?_; refine o_storeb4 rfl tabOk rfl rfl rfl (by first | exact bm_len _ | exact rm_len _ | (simp only [bm_len, rm_len]) | rfl) (by first | exact bm_one _ | exact rm_one _ | rfl) (by first | exact bm_len _ | exact rm_len _ | (simp only [bm_len, rm_len]) | rfl) ?_))
                  | ((refine z_sti 5 rfl rfl ?_; refine o_storeb5 rfl tabOk rfl rfl rfl (by first | exact bm_len _ | exact rm_len _ | (simp only [bm_len, rm_len]) | rfl) (by first | exact bm_one _ | exact rm_one _ | rfl) (by first | exact bm_len _ | exact rm_len _ | (simp only [bm_len, rm_len]) | rfl) ?_))
                  | ((refine z_sti 6 rfl rfl ?_; refine o_storeb6 rfl tabOk rfl rfl rfl (by first | exact bm_len _ | exact rm_len _ | (simp only [bm_len, rm_len]) | rfl) (by first | exact bm_one _ | exact rm_one _ | rfl) (by first | exact bm_len _ | exact rm_len _ | (simp only [bm_len, rm_len]) | rfl) ?_)))
              | (refine z_st1 rfl rfl ?_; first
                  | refine o_store rfl tabOk rfl rfl rfl rfl rfl (by first | exact bm_at _ (by omega) | exact rm_at _ (by omega) | rfl) (by first | exact bm_set _ _ _ | exact rm_set _ _ _ | rfl) ?_
                  | ((refine z_sti 1 rfl rfl ?_; refine o_store1 rfl tabOk rfl rfl rfl rfl rfl (by first | exact bm_at _ (by omega) | exact rm_at _ (by omega) | rfl) (by first | exact bm_set _ _ _ | exact rm_set _ _ _ | rfl) ?_))
                  | ((refine z_sti 2 rfl rfl ?_; refine o_store2 rfl tabOk rfl rfl rfl rfl rfl (by first | exact bm_at _ (by omega) | exact rm_at _ (by omega) | rfl) (by first | exact bm_set _ _ _ | exact rm_set _ _ _ | rfl) ?_))
                  | ((refine z_sti 3 rfl rfl ?_; refine o_store3 rfl tabOk rfl rfl rfl rfl rfl (by first | exact bm_at _ (by omega) | exact rm_at _ (by omega) | rfl) (by first | exact bm_set _ _ _ | exact rm_set _ _ _ | rfl) ?_))
                  | ((refine z_sti 4 rfl rfl ?_; refine o_store4 rfl tabOk rfl rfl rfl rfl rfl (by first | exact bm_at _ (by omega) | exact rm_at _ (by omega) | rfl) (by first | exact bm_set _ _ _ | exact rm_set _ _ _ | rfl) ?_))
                  | ((refine z_sti 5 rfl rfl ?_; refine o_store5 rfl tabOk rfl rfl rfl rfl rfl (by first | exact bm_at _ (by omega) | exact rm_at _ (by omega) | rfl) (by first | exact bm_set _ _ _ | exact rm_set _ _ _ | rfl) ?_))
                  | ((refine z_sti 6 rfl rfl ?_; refine o_store6 rfl tabOk rfl rfl rfl rfl rfl (by first | exact bm_at _ (by omega) | exact rm_at _ (by omega) | rfl) (by first | exact bm_set _ _ _ | exact rm_set _ _ _ | rfl) ?_))))
          | (refine z_isfield ?_; first
              | refine o_fv tabOk rfl rfl rfl rfl rfl (by first | exact bm_at _ (by omega) | exact rm_at _ (by omega) | rfl) (by decide) ?_
              | refine o_fvw tabOk rfl rfl rfl rfl rfl (by first | exact bm_len _ | exact rm_len _ | (simp only [bm_len, rm_len]) | rfl) (by decide) ?_)
          | (refine z_isindex ?_; first
              | refine o_ixv tabOk rfl rfl rfl rfl rfl (by omega) (by omega) (by first | exact bm_at _ (by omega) | exact rm_at _ (by omega) | rfl) (by decide) ?_)
          | (refine z_ismakes ?_; first
              | refine o_make1 rfl tabOk zeroOk rfl rfl rfl rfl rfl (by decide) fun g => ?_)
          | (refine z_iscall ?_; first
              | ((refine z_iscallf 44 ?_; refine o_fn rfl Try.func44 rfl rfl rfl (in_fn _) (by decide) ?_))
              | ((refine z_iscallf 16 ?_; refine o_fn rfl Try.func16 rfl rfl rfl (has_fn _ (by assumption) _) (by decide) ?_)))
          | (refine z_ispick ?_; first
              | (refine o_pick1 rfl (by first | with_reducible rfl | ((with_reducible refine decide_eq_true ?_); first | with_reducible rfl | with_reducible assumption | omega) | (simp only [Bool.not_eq_true', decide_eq_false_iff_not]; omega) | (with_reducible assumption) | (rw [decide_eq_false] <;> (first | omega | with_reducible rfl)) | (rw [decide_eq_true] <;> (first | omega | with_reducible rfl)) | (simp; done) | (simp; omega)) rfl (by decide) ?_)
              | (refine o_pick0 rfl (by first | with_reducible rfl | ((with_reducible refine decide_eq_false ?_); first | with_reducible assumption | omega) | (simp only [Bool.not_eq_false', decide_eq_true_eq]; omega) | (with_reducible assumption) | (rw [decide_eq_false] <;> (first | omega | with_reducible rfl)) | (rw [decide_eq_true] <;> (first | omega | with_reducible rfl)) | (simp; done) | (simp; omega)) rfl (by decide) ?_))
          | (refine z_isix ?_; first
              | refine o_index0 tabOk rfl rfl rfl rfl (by omega) (by omega) (by decide) ?_
              | refine o_index1 tabOk rfl rfl rfl rfl (by omega) (by omega) (by decide) ?_
              | refine o_indexsk tabOk rfl rfl rfl rfl (by omega) (by omega) (by decide) ?_
              | refine o_indexs1 tabOk (by first | assumption) rfl rfl rfl rfl (by omega) (by omega) (by decide) ?_)
          | (refine z_isslice ?_; first
              | refine o_slice tabOk rfl rfl rfl rfl rfl (by omega) (by omega) (by omega) (by decide) ?_
              | refine o_slicel tabOk rfl rfl rfl rfl (by omega) (by omega) (by omega) (by decide) ?_
              | refine o_sliceh tabOk rfl rfl rfl rfl (by omega) (by omega) (by decide) ?_
              | refine o_slp tabOk rfl rfl rfl rfl rfl (by omega) (by omega) (by omega) (by omega) (by decide) ?_
              | refine o_slpl tabOk rfl rfl rfl rfl (by omega) (by omega) (by decide) ?_
              | refine o_slp0 tabOk rfl rfl rfl rfl (by decide) ?_)
          | (refine z_isbi ?_; first
              | refine o_len tabOk rfl rfl (by decide) ?_
              | refine o_min rfl rfl (by decide) ?_
              | refine o_max rfl rfl (by decide) ?_
              | refine o_append rfl tabOk zeroOk rfl rfl rfl rfl rfl rfl (by first | assumption | exact Rds.cons _ (by assumption) | exact Rds.cons _ (Rds.cons _ (by assumption)) | exact own_rds 0 rfl | exact own_rds 1 rfl | exact own_rds 2 rfl) (by first | rfl | simp) (by first | rfl | simp) (by omega) (by omega) (by decide) fun A' c' => ?_
              | (refine z_front rfl 1 rfl ?_; refine o_append rfl tabOk zeroOk rfl rfl rfl rfl rfl rfl (by first | assumption | exact Rds.cons _ (by assumption) | exact Rds.cons _ (Rds.cons _ (by assumption)) | exact own_rds 0 rfl | exact own_rds 1 rfl | exact own_rds 2 rfl) (by first | rfl | simp) (by first | rfl | simp) (by omega) (by omega) (by decide) fun A' c' => ?_)
              | (refine z_front rfl 2 rfl ?_; refine o_append rfl tabOk zeroOk rfl rfl rfl rfl rfl rfl (by first | assumption | exact Rds.cons _ (by assumption) | exact Rds.cons _ (Rds.cons _ (by assumption)) | exact own_rds 0 rfl | exact own_rds 1 rfl | exact own_rds 2 rfl) (by first | rfl | simp) (by first | rfl | simp) (by omega) (by omega) (by decide) fun A' c' => ?_)
              | (refine z_front rfl 3 rfl ?_; refine o_append rfl tabOk zeroOk rfl rfl rfl rfl rfl rfl (by first | assumption | exact Rds.cons _ (by assumption) | exact Rds.cons _ (Rds.cons _ (by assumption)) | exact own_rds 0 rfl | exact own_rds 1 rfl | exact own_rds 2 rfl) (by first | rfl | simp) (by first | rfl | simp) (by omega) (by omega) (by decide) fun A' c' => ?_)
              | (refine z_front rfl 4 rfl ?_; refine o_append rfl tabOk zeroOk rfl rfl rfl rfl rfl rfl (by first | assumption | exact Rds.cons _ (by assumption) | exact Rds.cons _ (Rds.cons _ (by assumption)) | exact own_rds 0 rfl | exact own_rds 1 rfl | exact own_rds 2 rfl) (by first | rfl | simp) (by first | rfl | simp) (by omega) (by omega) (by decide) fun A' c' => ?_)
              | (refine z_front rfl 5 rfl ?_; refine o_append rfl tabOk zeroOk rfl rfl rfl rfl rfl rfl (by first | assumption | exact Rds.cons _ (by assumption) | exact Rds.cons _ (Rds.cons _ (by assumption)) | exact own_rds 0 rfl | exact own_rds 1 rfl | exact own_rds 2 rfl) (by first | rfl | simp) (by first | rfl | simp) (by omega) (by omega) (by decide) fun A' c' => ?_))
          | refine o_move rfl (by decide) ?_
          | refine o_assign rfl (by decide) ?_
          | refine o_nil rfl (by decide) ?_
          | refine o_extract rfl rfl (by decide) ?_
          | refine o_not rfl (by decide) ?_
          | refine o_field0 tabOk rfl rfl rfl rfl rfl (by decide) ?_
          | refine o_field tabOk rfl rfl rfl rfl rfl (by decide) ?_
          | refine o_conv tabOk rfl rfl rfl (by decide) ?_))
theorem of_fn (r : Nat → Int) : Pf Try.prog 12 [.agg (bm r).toArray] (.agg (bm r).toArray) := by
  intro w hw
  refine f_enter Try.func12 rfl Try.ntmps12 rfl hw ?_
  repeat' (first
    | (refine s_is ?_; first
        | (refine s_isret ?_; first
            | exact p_r1 rfl (res_c tabOk rfl rfl rfl 0 rfl (bm_len _)))
        | (refine s_isw ?_; first
            | refine c_seq ?_
            | refine c_block ?_
            | refine c_region ?_
            | refine c_mixed mixed (by kernel_rfl) ?_
            | refine c_skip ?_
            | refine c_ret ?_
            | refine c_exit ?_
            | (refine s_iscond ?_; first
                | (refine c_true rfl (by first | with_reducible rfl | ((with_reducible refine decide_eq_true ?_); first | with_reducible rfl | with_reducible assumption | omega) | (simp only [Bool.not_eq_true', decide_eq_false_iff_not]; omega) | (with_reducible assumption) | (rw [decide_eq_false] <;> (first | omega | with_reducible rfl)) | (rw [decide_eq_true] <;> (first | omega | with_reducible rfl)) | (simp; done) | (simp; omega)) ?_)
                | (refine c_false rfl (by first | with_reducible rfl | ((with_reducible refine decide_eq_false ?_); first | with_reducible assumption | omega) | (simp only [Bool.not_eq_false', decide_eq_true_eq]; omega) | (with_reducible assumption) | (rw [decide_eq_false] <;> (first | omega | with_reducible rfl)) | (rw [decide_eq_true] <;> (first | omega | with_reducible rfl)) | (simp; done) | (simp; omega)) ?_)
                | refine c_cond rfl (fun hc => ?_) (fun hc => ?_)
                | refine c_condb rfl (fun hc => ?_) (fun hc => ?_)))
        | refine x_then ?_
        | refine x_then_ret ?_
        | refine x_then_exit ?_
        | refine x_block _ ?_
        | refine x_block_ret _ ?_
        | refine x_block_exit _ ?_
        | refine x_block_past (by decide) ?_
        | refine z_tailm ?_)
    | (refine z_isguard ?_; first
        | (refine z_want rfl rfl (by first | with_reducible rfl | ((with_reducible refine decide_eq_true ?_); first | with_reducible rfl | with_reducible assumption | omega) | ((with_reducible refine decide_eq_false ?_); first | with_reducible assumption | omega) | (simp only [Bool.not_eq_true', Bool.not_eq_false', decide_eq_false_iff_not, decide_eq_true_eq]; omega) | (with_reducible assumption) | (rw [decide_eq_false] <;> (first | omega | with_reducible rfl)) | (rw [decide_eq_true] <;> (first | omega | with_reducible rfl)) | (simp; done) | (simp; omega)) ?_)
        | (refine z_skip (by decide) rfl rfl (by first | with_reducible rfl | ((with_reducible refine decide_eq_true ?_); first | with_reducible rfl | with_reducible assumption | omega) | ((with_reducible refine decide_eq_false ?_); first | with_reducible assumption | omega) | (simp only [Bool.not_eq_true', Bool.not_eq_false', decide_eq_false_iff_not, decide_eq_true_eq]; omega) | (with_reducible assumption) | (rw [decide_eq_false] <;> (first | omega | with_reducible rfl)) | (rw [decide_eq_true] <;> (first | omega | with_reducible rfl)) | (simp; done) | (simp; omega)) ?_)
        | refine z_skipu (by decide) rfl rfl ?_
        | refine z_guard1 (by decide) rfl rfl (fun hc => ?_) (fun hc => ?_)
        | refine z_guard0 (by decide) rfl rfl (fun hc => ?_) (fun hc => ?_)
        | refine z_guardb (by decide) rfl rfl (fun hc => ?_) (fun hc => ?_))
    | (refine z_isnil ?_; first
        | refine z_list ?_
        | refine z_mixed ?_
        | refine z_mono0 ?_
        | refine z_mono1 (by decide) fun g => ?_
        | refine z_mono2 (by decide) (by decide) fun g g' => ?_
        | refine z_mixedx ?_
        | refine z_quiet ?_)
    | (refine z_isop ?_; first
        | (refine o_buildf (zs := bm (fun _ => 0)) (vs := bm r) tabOk rfl rfl (by kernel_rfl) rfl ⟨_, _, rfl, by simp [Value.cells, bm_len], by rw [bm_len]; decide, by simp [Value.cells, bm_len, Filled]⟩ (by decide) ?_)
        | refine o_boxa rfl rfl (by decide) fun g => ?_
        | refine o_alloca (e := 26) (vs := bm (fun _ => 0)) rfl (by kernel_rfl) (by decide) fun g => ?_
        | refine o_alloca (e := 24) (vs := bm (fun _ => 0)) rfl (by kernel_rfl) (by decide) fun g => ?_
        | refine o_alloca (e := 23) (vs := bm (fun _ => 0)) rfl (by kernel_rfl) (by decide) fun g => ?_
        | refine o_alloca (e := 49) (vs := rm (fun _ => false)) rfl (by kernel_rfl) (by decide) fun g => ?_
        | (refine z_isbin ?_; first
            | (refine z_isb .add ?_; first
                | refine o_add rfl rfl (by omega) (by omega) (by decide) ?_
                | refine o_addw rfl rfl (by decide) ?_)
            | (refine z_isb .sub ?_; first
                | refine o_sub rfl rfl (by omega) (by omega) (by decide) ?_
                | refine o_subw rfl rfl (by decide) ?_)
            | (refine z_isb .mul ?_; first
                | refine o_mul rfl rfl (by omega) (by omega) (by decide) ?_
                | refine o_mulw rfl rfl (by decide) ?_)
            | (refine z_isb .eql ?_; first
                | refine o_eq rfl rfl (by decide) ?_
                | refine o_beq tabOk rfl rfl rfl (by decide) ?_
                | refine o_peq tabOk rfl rfl (by decide) ?_)
            | (refine z_isb .neq ?_; first
                | refine o_ne rfl rfl (by decide) ?_
                | refine o_bne tabOk rfl rfl rfl (by decide) ?_
                | refine o_pne tabOk rfl rfl (by decide) ?_)
            | (refine z_isb .lss ?_; first
                | refine o_lt rfl rfl (by decide) ?_)
            | (refine z_isb .leq ?_; first
                | refine o_le rfl rfl (by decide) ?_)
            | (refine z_isb .gtr ?_; first
                | refine o_gt rfl rfl (by decide) ?_)
            | (refine z_isb .geq ?_; first
                | refine o_ge rfl rfl (by decide) ?_)
            | (refine z_isb .quo ?_; first
                | refine o_quo rfl rfl (by omega) (by omega) (by omega) (by decide) ?_
                | refine o_quo8 rfl rfl (by omega) (by omega) (by omega) (by decide) ?_
                | refine o_quot rfl rfl (by omega) (by decide) ?_)
            | (refine z_isb .rem ?_; first
                | refine o_rem rfl rfl (by omega) (by omega) (by decide) ?_
                | refine o_remk rfl rfl (by omega) (by omega) (by decide) ?_
                | refine o_remt rfl rfl (by omega) (by decide) ?_)
            | (refine z_isb .and ?_; first
                | refine o_and rfl rfl (by decide) ?_)
            | (refine z_isb .or ?_; first
                | refine o_or rfl rfl (by decide) ?_)
            | (refine z_isb .andNot ?_; first
                | refine o_andNot rfl rfl (by decide) ?_)
            | (refine z_isb .shl ?_; first
                | refine o_shl rfl rfl (by omega) (by decide) ?_)
            | (refine z_isb .shr ?_; first
                | refine o_shr rfl rfl (by omega) (by decide) ?_))
        | (refine z_isload ?_; first
            | (refine z_ld1 tabOk rfl rfl ?_; first
                | ((refine z_ldi 0 rfl rfl ?_; refine o_load tabOk rfl rfl rfl 0 rfl (by first | exact bm_at _ (by omega) | exact rm_at _ (by omega) | rfl) (by decide) ?_))
                | ((refine z_ldi 1 rfl rfl ?_; refine o_load tabOk rfl rfl rfl 1 rfl (by first | exact bm_at _ (by omega) | exact rm_at _ (by omega) | rfl) (by decide) ?_))
                | ((refine z_ldi 2 rfl rfl ?_; refine o_load tabOk rfl rfl rfl 2 rfl (by first | exact bm_at _ (by omega) | exact rm_at _ (by omega) | rfl) (by decide) ?_))
                | ((refine z_ldi 3 rfl rfl ?_; refine o_load tabOk rfl rfl rfl 3 rfl (by first | exact bm_at _ (by omega) | exact rm_at _ (by omega) | rfl) (by decide) ?_))
                | ((refine z_ldi 4 rfl rfl ?_; refine o_load tabOk rfl rfl rfl 4 rfl (by first | exact bm_at _ (by omega) | exact rm_at _ (by omega) | rfl) (by decide) ?_))
                | ((refine z_ldi 5 rfl rfl ?_; refine o_load tabOk rfl rfl rfl 5 rfl (by first | exact bm_at _ (by omega) | exact rm_at _ (by omega) | rfl) (by decide) ?_))
                | ((refine z_ldi 6 rfl rfl ?_; refine o_load tabOk rfl rfl rfl 6 rfl (by first | exact bm_at _ (by omega) | exact rm_at _ (by omega) | rfl) (by decide) ?_))
                | refine o_loads tabOk (by first | assumption | exact Rds.cons _ (by assumption) | exact Rds.cons _ (Rds.cons _ (by assumption)) | exact own_rds 0 rfl | exact own_rds 1 rfl | exact own_rds 2 rfl) rfl rfl rfl (by first | exact bm_at _ (by omega) | exact rm_at _ (by omega) | rfl) (by decide) ?_)
            | (refine z_ldw tabOk rfl rfl ?_; first
                | ((refine z_ldi 0 rfl rfl ?_; refine o_loadw tabOk rfl rfl rfl 0 rfl (by first | exact bm_len _ | exact rm_len _ | (simp only [bm_len, rm_len]) | rfl) (by decide) ?_))
                | ((refine z_ldi 1 rfl rfl ?_; refine o_loadw tabOk rfl rfl rfl 1 rfl (by first | exact bm_len _ | exact rm_len _ | (simp only [bm_len, rm_len]) | rfl) (by decide) ?_))
                | ((refine z_ldi 2 rfl rfl ?_; refine o_loadw tabOk rfl rfl rfl 2 rfl (by first | exact bm_len _ | exact rm_len _ | (simp only [bm_len, rm_len]) | rfl) (by decide) ?_))
                | ((refine z_ldi 3 rfl rfl ?_; refine o_loadw tabOk rfl rfl rfl 3 rfl (by first | exact bm_len _ | exact rm_len _ | (simp only [bm_len, rm_len]) | rfl) (by decide) ?_))
                | ((refine z_ldi 4 rfl rfl ?_; refine o_loadw tabOk rfl rfl rfl 4 rfl (by first | exact bm_len _ | exact rm_len _ | (simp only [bm_len, rm_len]) | rfl) (by decide) ?_))
                | ((refine z_ldi 5 rfl rfl ?_; refine o_loadw tabOk rfl rfl rfl 5 rfl (by first | exact bm_len _ | exact rm_len _ | (simp only [bm_len, rm_len]) | rfl) (by decide) ?_))
                | ((refine z_ldi 6 rfl rfl ?_; refine o_loadw tabOk rfl rfl rfl 6 rfl (by first | exact bm_len _ | exact rm_len _ | (simp only [bm_len, rm_len]) | rfl) (by decide) ?_))))
        | (refine z_isstore ?_; first
            | (refine z_stw rfl ?_; first
                | ((refine z_sti 0 rfl rfl ?_; refine o_storeb0 rfl tabOk rfl rfl rfl (by first | exact bm_len _ | exact rm_len _ | (simp only [bm_len, rm_len]) | rfl) (by first | exact bm_one _ | exact rm_one _ | rfl) (by first | exact bm_len _ | exact rm_len _ | (simp only [bm_len, rm_len]) | rfl) ?_))
                | ((refine z_sti 1 rfl rfl ?_; refine o_storeb1 rfl tabOk rfl rfl rfl (by first | exact bm_len _ | exact rm_len _ | (simp only [bm_len, rm_len]) | rfl) (by first | exact bm_one _ | exact rm_one _ | rfl) (by first | exact bm_len _ | exact rm_len _ | (simp only [bm_len, rm_len]) | rfl) ?_))
                | ((refine z_sti 2 rfl rfl ?_; refine o_storeb2 rfl tabOk rfl rfl rfl (by first | exact bm_len _ | exact rm_len _ | (simp only [bm_len, rm_len]) | rfl) (by first | exact bm_one _ | exact rm_one _ | rfl) (by first | exact bm_len _ | exact rm_len _ | (simp only [bm_len, rm_len]) | rfl) ?_))
                | ((refine z_sti 3 rfl rfl ?_; refine o_storeb3 rfl tabOk rfl rfl rfl (by first | exact bm_len _ | exact rm_len _ | (simp only [bm_len, rm_len]) | rfl) (by first | exact bm_one _ | exact rm_one _ | rfl) (by first | exact bm_len _ | exact rm_len _ | (simp only [bm_len, rm_len]) | rfl) ?_))
                | ((refine z_sti 4 rfl rfl ?_; refine o_storeb4 rfl tabOk rfl rfl rfl (by first | exact bm_len _ | exact rm_len _ | (simp only [bm_len, rm_len]) | rfl) (by first | exact bm_one _ | exact rm_one _ | rfl) (by first | exact bm_len _ | exact rm_len _ | (simp only [bm_len, rm_len]) | rfl) ?_))
                | ((refine z_sti 5 rfl rfl ?_; refine o_storeb5 rfl tabOk rfl rfl rfl (by first | exact bm_len _ | exact rm_len _ | (simp only [bm_len, rm_len]) | rfl) (by first | exact bm_one _ | exact rm_one _ | rfl) (by first | exact bm_len _ | exact rm_len _ | (simp only [bm_len, rm_len]) | rfl) ?_))
                | ((refine z_sti 6 rfl rfl ?_; refine o_storeb6 rfl tabOk rfl rfl rfl (by first | exact bm_len _ | exact rm_len _ | (simp only [bm_len, rm_len]) | rfl) (by first | exact bm_one _ | exact rm_one _ | rfl) (by first | exact bm_len _ | exact rm_len _ | (simp only [bm_len, rm_len]) | rfl) ?_)))
            | (refine z_st1 rfl rfl ?_; first
                | refine o_store rfl tabOk rfl rfl rfl rfl rfl (by first | exact bm_at _ (by omega) | exact rm_at _ (by omega) | rfl) (by first | exact bm_set _ _ _ | exact rm_set _ _ _ | rfl) ?_
                | ((refine z_sti 1 rfl rfl ?_; refine o_store1 rfl tabOk rfl rfl rfl rfl rfl (by first | exact bm_at _ (by omega) | exact rm_at _ (by omega) | rfl) (by first | exact bm_set _ _ _ | exact rm_set _ _ _ | rfl) ?_))
                | ((refine z_sti 2 rfl rfl ?_; refine o_store2 rfl tabOk rfl rfl rfl rfl rfl (by first | exact bm_at _ (by omega) | exact rm_at _ (by omega) | rfl) (by first | exact bm_set _ _ _ | exact rm_set _ _ _ | rfl) ?_))
                | ((refine z_sti 3 rfl rfl ?_; refine o_store3 rfl tabOk rfl rfl rfl rfl rfl (by first | exact bm_at _ (by omega) | exact rm_at _ (by omega) | rfl) (by first | exact bm_set _ _ _ | exact rm_set _ _ _ | rfl) ?_))
                | ((refine z_sti 4 rfl rfl ?_; refine o_store4 rfl tabOk rfl rfl rfl rfl rfl (by first | exact bm_at _ (by omega) | exact rm_at _ (by omega) | rfl) (by first | exact bm_set _ _ _ | exact rm_set _ _ _ | rfl) ?_))
                | ((refine z_sti 5 rfl rfl ?_; refine o_store5 rfl tabOk rfl rfl rfl rfl rfl (by first | exact bm_at _ (by omega) | exact rm_at _ (by omega) | rfl) (by first | exact bm_set _ _ _ | exact rm_set _ _ _ | rfl) ?_))
                | ((refine z_sti 6 rfl rfl ?_; refine o_store6 rfl tabOk rfl rfl rfl rfl rfl (by first | exact bm_at _ (by omega) | exact rm_at _ (by omega) | rfl) (by first | exact bm_set _ _ _ | exact rm_set _ _ _ | rfl) ?_))))
        | (refine z_isfield ?_; first
            | refine o_fv tabOk rfl rfl rfl rfl rfl (by first | exact bm_at _ (by omega) | exact rm_at _ (by omega) | rfl) (by decide) ?_
            | refine o_fvw tabOk rfl rfl rfl rfl rfl (by first | exact bm_len _ | exact rm_len _ | (simp only [bm_len, rm_len]) | rfl) (by decide) ?_)
        | (refine z_isindex ?_; first
            | refine o_ixv tabOk rfl rfl rfl rfl rfl (by omega) (by omega) (by first | exact bm_at _ (by omega) | exact rm_at _ (by omega) | rfl) (by decide) ?_)
        | (refine z_ismakes ?_; first
            | refine o_make1 rfl tabOk zeroOk rfl rfl rfl rfl rfl (by decide) fun g => ?_)
        | (refine z_iscall ?_; first
            | ((refine z_iscallf 44 ?_; refine o_fn rfl Try.func44 rfl rfl rfl (in_fn _) (by decide) ?_))
            | ((refine z_iscallf 16 ?_; refine o_fn rfl Try.func16 rfl rfl rfl (has_fn _ (by assumption) _) (by decide) ?_)))
        | (refine z_ispick ?_; first
            | (refine o_pick1 rfl (by first | with_reducible rfl | ((with_reducible refine decide_eq_true ?_); first | with_reducible rfl | with_reducible assumption | omega) | (simp only [Bool.not_eq_true', decide_eq_false_iff_not]; omega) | (with_reducible assumption) | (rw [decide_eq_false] <;> (first | omega | with_reducible rfl)) | (rw [decide_eq_true] <;> (first | omega | with_reducible rfl)) | (simp; done) | (simp; omega)) rfl (by decide) ?_)
            | (refine o_pick0 rfl (by first | with_reducible rfl | ((with_reducible refine decide_eq_false ?_); first | with_reducible assumption | omega) | (simp only [Bool.not_eq_false', decide_eq_true_eq]; omega) | (with_reducible assumption) | (rw [decide_eq_false] <;> (first | omega | with_reducible rfl)) | (rw [decide_eq_true] <;> (first | omega | with_reducible rfl)) | (simp; done) | (simp; omega)) rfl (by decide) ?_))
        | (refine z_isix ?_; first
            | refine o_index0 tabOk rfl rfl rfl rfl (by omega) (by omega) (by decide) ?_
            | refine o_index1 tabOk rfl rfl rfl rfl (by omega) (by omega) (by decide) ?_
            | refine o_indexsk tabOk rfl rfl rfl rfl (by omega) (by omega) (by decide) ?_
            | refine o_indexs1 tabOk (by first | assumption) rfl rfl rfl rfl (by omega) (by omega) (by decide) ?_)
        | (refine z_isslice ?_; first
            | refine o_slice tabOk rfl rfl rfl rfl rfl (by omega) (by omega) (by omega) (by decide) ?_
            | refine o_slicel tabOk rfl rfl rfl rfl (by omega) (by omega) (by omega) (by decide) ?_
            | refine o_sliceh tabOk rfl rfl rfl rfl (by omega) (by omega) (by decide) ?_
            | refine o_slp tabOk rfl rfl rfl rfl rfl (by omega) (by omega) (by omega) (by omega) (by decide) ?_
            | refine o_slpl tabOk rfl rfl rfl rfl (by omega) (by omega) (by decide) ?_
            | refine o_slp0 tabOk rfl rfl rfl rfl (by decide) ?_)
        | (refine z_isbi ?_; first
            | refine o_len tabOk rfl rfl (by decide) ?_
            | refine o_min rfl rfl (by decide) ?_
            | refine o_max rfl rfl (by decide) ?_
            | refine o_append rfl tabOk zeroOk rfl rfl rfl rfl rfl rfl (by first | assumption | exact Rds.cons _ (by assumption) | exact Rds.cons _ (Rds.cons _ (by assumption)) | exact own_rds 0 rfl | exact own_rds 1 rfl | exact own_rds 2 rfl) (by first | rfl | simp) (by first | rfl | simp) (by omega) (by omega) (by decide) fun A' c' => ?_
            | (refine z_front rfl 1 rfl ?_; refine o_append rfl tabOk zeroOk rfl rfl rfl rfl rfl rfl (by first | assumption | exact Rds.cons _ (by assumption) | exact Rds.cons _ (Rds.cons _ (by assumption)) | exact own_rds 0 rfl | exact own_rds 1 rfl | exact own_rds 2 rfl) (by first | rfl | simp) (by first | rfl | simp) (by omega) (by omega) (by decide) fun A' c' => ?_)
            | (refine z_front rfl 2 rfl ?_; refine o_append rfl tabOk zeroOk rfl rfl rfl rfl rfl rfl (by first | assumption | exact Rds.cons _ (by assumption) | exact Rds.cons _ (Rds.cons _ (by assumption)) | exact own_rds 0 rfl | exact own_rds 1 rfl | exact own_rds 2 rfl) (by first | rfl | simp) (by first | rfl | simp) (by omega) (by omega) (by decide) fun A' c' => ?_)
            | (refine z_front rfl 3 rfl ?_; refine o_append rfl tabOk zeroOk rfl rfl rfl rfl rfl rfl (by first | assumption | exact Rds.cons _ (by assumption) | exact Rds.cons _ (Rds.cons _ (by assumption)) | exact own_rds 0 rfl | exact own_rds 1 rfl | exact own_rds 2 rfl) (by first | rfl | simp) (by first | rfl | simp) (by omega) (by omega) (by decide) fun A' c' => ?_)
            | (refine z_front rfl 4 rfl ?_; refine o_append rfl tabOk zeroOk rfl rfl rfl rfl rfl rfl (by first | assumption | exact Rds.cons _ (by assumption) | exact Rds.cons _ (Rds.cons _ (by assumption)) | exact own_rds 0 rfl | exact own_rds 1 rfl | exact own_rds 2 rfl) (by first | rfl | simp) (by first | rfl | simp) (by omega) (by omega) (by decide) fun A' c' => ?_)
            | (refine z_front rfl 5 rfl ?_; refine o_append rfl tabOk zeroOk rfl rfl rfl rfl rfl rfl (by first | assumption | exact Rds.cons _ (by assumption) | exact Rds.cons _ (Rds.cons _ (by assumption)) | exact own_rds 0 rfl | exact own_rds 1 rfl | exact own_rds 2 rfl) (by first | rfl | simp) (by first | rfl | simp) (by omega) (by omega) (by decide) fun A' c' => ?_))
        | refine o_move rfl (by decide) ?_
        | refine o_assign rfl (by decide) ?_
        | refine o_nil rfl (by decide) ?_
        | refine o_extract rfl rfl (by decide) ?_
        | refine o_not rfl (by decide) ?_
        | refine o_field0 tabOk rfl rfl rfl rfl rfl (by decide) ?_
        | refine o_field tabOk rfl rfl rfl rfl rfl (by decide) ?_
        | refine o_conv tabOk rfl rfl rfl (by decide) ?_))
theorem block_fn (r : Nat → Int) : Pf Try.prog 24 [.agg (bm r).toArray] (.agg (bm r).toArray) := by
  intro w hw
  refine f_enter Try.func24 rfl Try.ntmps24 rfl hw ?_
  repeat' (first
    | (refine s_is ?_; first
        | (refine s_isret ?_; first
            | exact p_r1 rfl (res_c tabOk rfl rfl rfl 0 rfl (bm_len _)))
        | (refine s_isw ?_; first
            | refine c_seq ?_
            | refine c_block ?_
            | refine c_region ?_
            | refine c_mixed mixed (by kernel_rfl) ?_
            | refine c_skip ?_
            | refine c_ret ?_
            | refine c_exit ?_
            | (refine s_iscond ?_; first
                | (refine c_true rfl (by first | with_reducible rfl | ((with_reducible refine decide_eq_true ?_); first | with_reducible rfl | with_reducible assumption | omega) | (simp only [Bool.not_eq_true', decide_eq_false_iff_not]; omega) | (with_reducible assumption) | (rw [decide_eq_false] <;> (first | omega | with_reducible rfl)) | (rw [decide_eq_true] <;> (first | omega | with_reducible rfl)) | (simp; done) | (simp; omega)) ?_)
                | (refine c_false rfl (by first | with_reducible rfl | ((with_reducible refine decide_eq_false ?_); first | with_reducible assumption | omega) | (simp only [Bool.not_eq_false', decide_eq_true_eq]; omega) | (with_reducible assumption) | (rw [decide_eq_false] <;> (first | omega | with_reducible rfl)) | (rw [decide_eq_true] <;> (first | omega | with_reducible rfl)) | (simp; done) | (simp; omega)) ?_)
                | refine c_cond rfl (fun hc => ?_) (fun hc => ?_)
                | refine c_condb rfl (fun hc => ?_) (fun hc => ?_)))
        | refine x_then ?_
        | refine x_then_ret ?_
        | refine x_then_exit ?_
        | refine x_block _ ?_
        | refine x_block_ret _ ?_
        | refine x_block_exit _ ?_
        | refine x_block_past (by decide) ?_
        | refine z_tailm ?_)
    | (refine z_isguard ?_; first
        | (refine z_want rfl rfl (by first | with_reducible rfl | ((with_reducible refine decide_eq_true ?_); first | with_reducible rfl | with_reducible assumption | omega) | ((with_reducible refine decide_eq_false ?_); first | with_reducible assumption | omega) | (simp only [Bool.not_eq_true', Bool.not_eq_false', decide_eq_false_iff_not, decide_eq_true_eq]; omega) | (with_reducible assumption) | (rw [decide_eq_false] <;> (first | omega | with_reducible rfl)) | (rw [decide_eq_true] <;> (first | omega | with_reducible rfl)) | (simp; done) | (simp; omega)) ?_)
        | (refine z_skip (by decide) rfl rfl (by first | with_reducible rfl | ((with_reducible refine decide_eq_true ?_); first | with_reducible rfl | with_reducible assumption | omega) | ((with_reducible refine decide_eq_false ?_); first | with_reducible assumption | omega) | (simp only [Bool.not_eq_true', Bool.not_eq_false', decide_eq_false_iff_not, decide_eq_true_eq]; omega) | (with_reducible assumption) | (rw [decide_eq_false] <;> (first | omega | with_reducible rfl)) | (rw [decide_eq_true] <;> (first | omega | with_reducible rfl)) | (simp; done) | (simp; omega)) ?_)
        | refine z_skipu (by decide) rfl rfl ?_
        | refine z_guard1 (by decide) rfl rfl (fun hc => ?_) (fun hc => ?_)
        | refine z_guard0 (by decide) rfl rfl (fun hc => ?_) (fun hc => ?_)
        | refine z_guardb (by decide) rfl rfl (fun hc => ?_) (fun hc => ?_))
    | (refine z_isnil ?_; first
        | refine z_list ?_
        | refine z_mixed ?_
        | refine z_mono0 ?_
        | refine z_mono1 (by decide) fun g => ?_
        | refine z_mono2 (by decide) (by decide) fun g g' => ?_
        | refine z_mixedx ?_
        | refine z_quiet ?_)
    | (refine z_isop ?_; first
        | refine o_boxa rfl rfl (by decide) fun g => ?_
        | refine o_alloca (e := 26) (vs := bm (fun _ => 0)) rfl (by kernel_rfl) (by decide) fun g => ?_
        | refine o_alloca (e := 24) (vs := bm (fun _ => 0)) rfl (by kernel_rfl) (by decide) fun g => ?_
        | refine o_alloca (e := 23) (vs := bm (fun _ => 0)) rfl (by kernel_rfl) (by decide) fun g => ?_
        | refine o_alloca (e := 49) (vs := rm (fun _ => false)) rfl (by kernel_rfl) (by decide) fun g => ?_
        | (refine z_isbin ?_; first
            | (refine z_isb .add ?_; first
                | refine o_add rfl rfl (by omega) (by omega) (by decide) ?_
                | refine o_addw rfl rfl (by decide) ?_)
            | (refine z_isb .sub ?_; first
                | refine o_sub rfl rfl (by omega) (by omega) (by decide) ?_
                | refine o_subw rfl rfl (by decide) ?_)
            | (refine z_isb .mul ?_; first
                | refine o_mul rfl rfl (by omega) (by omega) (by decide) ?_
                | refine o_mulw rfl rfl (by decide) ?_)
            | (refine z_isb .eql ?_; first
                | refine o_eq rfl rfl (by decide) ?_
                | refine o_beq tabOk rfl rfl rfl (by decide) ?_
                | refine o_peq tabOk rfl rfl (by decide) ?_)
            | (refine z_isb .neq ?_; first
                | refine o_ne rfl rfl (by decide) ?_
                | refine o_bne tabOk rfl rfl rfl (by decide) ?_
                | refine o_pne tabOk rfl rfl (by decide) ?_)
            | (refine z_isb .lss ?_; first
                | refine o_lt rfl rfl (by decide) ?_)
            | (refine z_isb .leq ?_; first
                | refine o_le rfl rfl (by decide) ?_)
            | (refine z_isb .gtr ?_; first
                | refine o_gt rfl rfl (by decide) ?_)
            | (refine z_isb .geq ?_; first
                | refine o_ge rfl rfl (by decide) ?_)
            | (refine z_isb .quo ?_; first
                | refine o_quo rfl rfl (by omega) (by omega) (by omega) (by decide) ?_
                | refine o_quo8 rfl rfl (by omega) (by omega) (by omega) (by decide) ?_
                | refine o_quot rfl rfl (by omega) (by decide) ?_)
            | (refine z_isb .rem ?_; first
                | refine o_rem rfl rfl (by omega) (by omega) (by decide) ?_
                | refine o_remk rfl rfl (by omega) (by omega) (by decide) ?_
                | refine o_remt rfl rfl (by omega) (by decide) ?_)
            | (refine z_isb .and ?_; first
                | refine o_and rfl rfl (by decide) ?_)
            | (refine z_isb .or ?_; first
                | refine o_or rfl rfl (by decide) ?_)
            | (refine z_isb .andNot ?_; first
                | refine o_andNot rfl rfl (by decide) ?_)
            | (refine z_isb .shl ?_; first
                | refine o_shl rfl rfl (by omega) (by decide) ?_)
            | (refine z_isb .shr ?_; first
                | refine o_shr rfl rfl (by omega) (by decide) ?_))
        | (refine z_isload ?_; first
            | (refine z_ld1 tabOk rfl rfl ?_; first
                | ((refine z_ldi 0 rfl rfl ?_; refine o_load tabOk rfl rfl rfl 0 rfl (by first | exact bm_at _ (by omega) | exact rm_at _ (by omega) | rfl) (by decide) ?_))
                | ((refine z_ldi 1 rfl rfl ?_; refine o_load tabOk rfl rfl rfl 1 rfl (by first | exact bm_at _ (by omega) | exact rm_at _ (by omega) | rfl) (by decide) ?_))
                | ((refine z_ldi 2 rfl rfl ?_; refine o_load tabOk rfl rfl rfl 2 rfl (by first | exact bm_at _ (by omega) | exact rm_at _ (by omega) | rfl) (by decide) ?_))
                | ((refine z_ldi 3 rfl rfl ?_; refine o_load tabOk rfl rfl rfl 3 rfl (by first | exact bm_at _ (by omega) | exact rm_at _ (by omega) | rfl) (by decide) ?_))
                | ((refine z_ldi 4 rfl rfl ?_; refine o_load tabOk rfl rfl rfl 4 rfl (by first | exact bm_at _ (by omega) | exact rm_at _ (by omega) | rfl) (by decide) ?_))
                | ((refine z_ldi 5 rfl rfl ?_; refine o_load tabOk rfl rfl rfl 5 rfl (by first | exact bm_at _ (by omega) | exact rm_at _ (by omega) | rfl) (by decide) ?_))
                | ((refine z_ldi 6 rfl rfl ?_; refine o_load tabOk rfl rfl rfl 6 rfl (by first | exact bm_at _ (by omega) | exact rm_at _ (by omega) | rfl) (by decide) ?_))
                | refine o_loads tabOk (by first | assumption | exact Rds.cons _ (by assumption) | exact Rds.cons _ (Rds.cons _ (by assumption)) | exact own_rds 0 rfl | exact own_rds 1 rfl | exact own_rds 2 rfl) rfl rfl rfl (by first | exact bm_at _ (by omega) | exact rm_at _ (by omega) | rfl) (by decide) ?_)
            | (refine z_ldw tabOk rfl rfl ?_; first
                | ((refine z_ldi 0 rfl rfl ?_; refine o_loadw tabOk rfl rfl rfl 0 rfl (by first | exact bm_len _ | exact rm_len _ | (simp only [bm_len, rm_len]) | rfl) (by decide) ?_))
                | ((refine z_ldi 1 rfl rfl ?_; refine o_loadw tabOk rfl rfl rfl 1 rfl (by first | exact bm_len _ | exact rm_len _ | (simp only [bm_len, rm_len]) | rfl) (by decide) ?_))
                | ((refine z_ldi 2 rfl rfl ?_; refine o_loadw tabOk rfl rfl rfl 2 rfl (by first | exact bm_len _ | exact rm_len _ | (simp only [bm_len, rm_len]) | rfl) (by decide) ?_))
                | ((refine z_ldi 3 rfl rfl ?_; refine o_loadw tabOk rfl rfl rfl 3 rfl (by first | exact bm_len _ | exact rm_len _ | (simp only [bm_len, rm_len]) | rfl) (by decide) ?_))
                | ((refine z_ldi 4 rfl rfl ?_; refine o_loadw tabOk rfl rfl rfl 4 rfl (by first | exact bm_len _ | exact rm_len _ | (simp only [bm_len, rm_len]) | rfl) (by decide) ?_))
                | ((refine z_ldi 5 rfl rfl ?_; refine o_loadw tabOk rfl rfl rfl 5 rfl (by first | exact bm_len _ | exact rm_len _ | (simp only [bm_len, rm_len]) | rfl) (by decide) ?_))
                | ((refine z_ldi 6 rfl rfl ?_; refine o_loadw tabOk rfl rfl rfl 6 rfl (by first | exact bm_len _ | exact rm_len _ | (simp only [bm_len, rm_len]) | rfl) (by decide) ?_))))
        | (refine z_isstore ?_; first
            | (refine z_stw rfl ?_; first
                | ((refine z_sti 0 rfl rfl ?_; refine o_storeb0 rfl tabOk rfl rfl rfl (by first | exact bm_len _ | exact rm_len _ | (simp only [bm_len, rm_len]) | rfl) (by first | exact bm_one _ | exact rm_one _ | rfl) (by first | exact bm_len _ | exact rm_len _ | (simp only [bm_len, rm_len]) | rfl) ?_))
                | ((refine z_sti 1 rfl rfl ?_; refine o_storeb1 rfl tabOk rfl rfl rfl (by first | exact bm_len _ | exact rm_len _ | (simp only [bm_len, rm_len]) | rfl) (by first | exact bm_one _ | exact rm_one _ | rfl) (by first | exact bm_len _ | exact rm_len _ | (simp only [bm_len, rm_len]) | rfl) ?_))
                | ((refine z_sti 2 rfl rfl ?_; refine o_storeb2 rfl tabOk rfl rfl rfl (by first | exact bm_len _ | exact rm_len _ | (simp only [bm_len, rm_len]) | rfl) (by first | exact bm_one _ | exact rm_one _ | rfl) (by first | exact bm_len _ | exact rm_len _ | (simp only [bm_len, rm_len]) | rfl) ?_))
                | ((refine z_sti 3 rfl rfl ?_; refine o_storeb3 rfl tabOk rfl rfl rfl (by first | exact bm_len _ | exact rm_len _ | (simp only [bm_len, rm_len]) | rfl) (by first | exact bm_one _ | exact rm_one _ | rfl) (by first | exact bm_len _ | exact rm_len _ | (simp only [bm_len, rm_len]) | rfl) ?_))
                | ((refine z_sti 4 rfl rfl ?_; refine o_storeb4 rfl tabOk rfl rfl rfl (by first | exact bm_len _ | exact rm_len _ | (simp only [bm_len, rm_len]) | rfl) (by first | exact bm_one _ | exact rm_one _ | rfl) (by first | exact bm_len _ | exact rm_len _ | (simp only [bm_len, rm_len]) | rfl) ?_))
                | ((refine z_sti 5 rfl rfl ?_; refine o_storeb5 rfl tabOk rfl rfl rfl (by first | exact bm_len _ | exact rm_len _ | (simp only [bm_len, rm_len]) | rfl) (by first | exact bm_one _ | exact rm_one _ | rfl) (by first | exact bm_len _ | exact rm_len _ | (simp only [bm_len, rm_len]) | rfl) ?_))
                | ((refine z_sti 6 rfl rfl ?_; refine o_storeb6 rfl tabOk rfl rfl rfl (by first | exact bm_len _ | exact rm_len _ | (simp only [bm_len, rm_len]) | rfl) (by first | exact bm_one _ | exact rm_one _ | rfl) (by first | exact bm_len _ | exact rm_len _ | (simp only [bm_len, rm_len]) | rfl) ?_)))
            | (refine z_st1 rfl rfl ?_; first
                | refine o_store rfl tabOk rfl rfl rfl rfl rfl (by first | exact bm_at _ (by omega) | exact rm_at _ (by omega) | rfl) (by first | exact bm_set _ _ _ | exact rm_set _ _ _ | rfl) ?_
                | ((refine z_sti 1 rfl rfl ?_; refine o_store1 rfl tabOk rfl rfl rfl rfl rfl (by first | exact bm_at _ (by omega) | exact rm_at _ (by omega) | rfl) (by first | exact bm_set _ _ _ | exact rm_set _ _ _ | rfl) ?_))
                | ((refine z_sti 2 rfl rfl ?_; refine o_store2 rfl tabOk rfl rfl rfl rfl rfl (by first | exact bm_at _ (by omega) | exact rm_at _ (by omega) | rfl) (by first | exact bm_set _ _ _ | exact rm_set _ _ _ | rfl) ?_))
                | ((refine z_sti 3 rfl rfl ?_; refine o_store3 rfl tabOk rfl rfl rfl rfl rfl (by first | exact bm_at _ (by omega) | exact rm_at _ (by omega) | rfl) (by first | exact bm_set _ _ _ | exact rm_set _ _ _ | rfl) ?_))
                | ((refine z_sti 4 rfl rfl ?_; refine o_store4 rfl tabOk rfl rfl rfl rfl rfl (by first | exact bm_at _ (by omega) | exact rm_at _ (by omega) | rfl) (by first | exact bm_set _ _ _ | exact rm_set _ _ _ | rfl) ?_))
                | ((refine z_sti 5 rfl rfl ?_; refine o_store5 rfl tabOk rfl rfl rfl rfl rfl (by first | exact bm_at _ (by omega) | exact rm_at _ (by omega) | rfl) (by first | exact bm_set _ _ _ | exact rm_set _ _ _ | rfl) ?_))
                | ((refine z_sti 6 rfl rfl ?_; refine o_store6 rfl tabOk rfl rfl rfl rfl rfl (by first | exact bm_at _ (by omega) | exact rm_at _ (by omega) | rfl) (by first | exact bm_set _ _ _ | exact rm_set _ _ _ | rfl) ?_))))
        | (refine z_isfield ?_; first
            | refine o_fv tabOk rfl rfl rfl rfl rfl (by first | exact bm_at _ (by omega) | exact rm_at _ (by omega) | rfl) (by decide) ?_
            | refine o_fvw tabOk rfl rfl rfl rfl rfl (by first | exact bm_len _ | exact rm_len _ | (simp only [bm_len, rm_len]) | rfl) (by decide) ?_)
        | (refine z_isindex ?_; first
            | refine o_ixv tabOk rfl rfl rfl rfl rfl (by omega) (by omega) (by first | exact bm_at _ (by omega) | exact rm_at _ (by omega) | rfl) (by decide) ?_)
        | (refine z_ismakes ?_; first
            | refine o_make1 rfl tabOk zeroOk rfl rfl rfl rfl rfl (by decide) fun g => ?_)
        | (refine z_iscall ?_; first
            | ((refine z_iscallf 44 ?_; refine o_fn rfl Try.func44 rfl rfl rfl (in_fn _) (by decide) ?_))
            | ((refine z_iscallf 16 ?_; refine o_fn rfl Try.func16 rfl rfl rfl (has_fn _ (by assumption) _) (by decide) ?_)))
        | (refine z_ispick ?_; first
            | (refine o_pick1 rfl (by first | with_reducible rfl | ((with_reducible refine decide_eq_true ?_); first | with_reducible rfl | with_reducible assumption | omega) | (simp only [Bool.not_eq_true', decide_eq_false_iff_not]; omega) | (with_reducible assumption) | (rw [decide_eq_false] <;> (first | omega | with_reducible rfl)) | (rw [decide_eq_true] <;> (first | omega | with_reducible rfl)) | (simp; done) | (simp; omega)) rfl (by decide) ?_)
            | (refine o_pick0 rfl (by first | with_reducible rfl | ((with_reducible refine decide_eq_false ?_); first | with_reducible assumption | omega) | (simp only [Bool.not_eq_false', decide_eq_true_eq]; omega) | (with_reducible assumption) | (rw [decide_eq_false] <;> (first | omega | with_reducible rfl)) | (rw [decide_eq_true] <;> (first | omega | with_reducible rfl)) | (simp; done) | (simp; omega)) rfl (by decide) ?_))
        | (refine z_isix ?_; first
            | refine o_index0 tabOk rfl rfl rfl rfl (by omega) (by omega) (by decide) ?_
            | refine o_index1 tabOk rfl rfl rfl rfl (by omega) (by omega) (by decide) ?_
            | refine o_indexsk tabOk rfl rfl rfl rfl (by omega) (by omega) (by decide) ?_
            | refine o_indexs1 tabOk (by first | assumption) rfl rfl rfl rfl (by omega) (by omega) (by decide) ?_)
        | (refine z_isslice ?_; first
            | refine o_slice tabOk rfl rfl rfl rfl rfl (by omega) (by omega) (by omega) (by decide) ?_
            | refine o_slicel tabOk rfl rfl rfl rfl (by omega) (by omega) (by omega) (by decide) ?_
            | refine o_sliceh tabOk rfl rfl rfl rfl (by omega) (by omega) (by decide) ?_
            | refine o_slp tabOk rfl rfl rfl rfl rfl (by omega) (by omega) (by omega) (by omega) (by decide) ?_
            | refine o_slpl tabOk rfl rfl rfl rfl (by omega) (by omega) (by decide) ?_
            | refine o_slp0 tabOk rfl rfl rfl rfl (by decide) ?_)
        | (refine z_isbi ?_; first
            | refine o_len tabOk rfl rfl (by decide) ?_
            | refine o_min rfl rfl (by decide) ?_
            | refine o_max rfl rfl (by decide) ?_
            | refine o_append rfl tabOk zeroOk rfl rfl rfl rfl rfl rfl (by first | assumption | exact Rds.cons _ (by assumption) | exact Rds.cons _ (Rds.cons _ (by assumption)) | exact own_rds 0 rfl | exact own_rds 1 rfl | exact own_rds 2 rfl) (by first | rfl | simp) (by first | rfl | simp) (by omega) (by omega) (by decide) fun A' c' => ?_
            | (refine z_front rfl 1 rfl ?_; refine o_append rfl tabOk zeroOk rfl rfl rfl rfl rfl rfl (by first | assumption | exact Rds.cons _ (by assumption) | exact Rds.cons _ (Rds.cons _ (by assumption)) | exact own_rds 0 rfl | exact own_rds 1 rfl | exact own_rds 2 rfl) (by first | rfl | simp) (by first | rfl | simp) (by omega) (by omega) (by decide) fun A' c' => ?_)
            | (refine z_front rfl 2 rfl ?_; refine o_append rfl tabOk zeroOk rfl rfl rfl rfl rfl rfl (by first | assumption | exact Rds.cons _ (by assumption) | exact Rds.cons _ (Rds.cons _ (by assumption)) | exact own_rds 0 rfl | exact own_rds 1 rfl | exact own_rds 2 rfl) (by first | rfl | simp) (by first | rfl | simp) (by omega) (by omega) (by decide) fun A' c' => ?_)
            | (refine z_front rfl 3 rfl ?_; refine o_append rfl tabOk zeroOk rfl rfl rfl rfl rfl rfl (by first | assumption | exact Rds.cons _ (by assumption) | exact Rds.cons _ (Rds.cons _ (by assumption)) | exact own_rds 0 rfl | exact own_rds 1 rfl | exact own_rds 2 rfl) (by first | rfl | simp) (by first | rfl | simp) (by omega) (by omega) (by decide) fun A' c' => ?_)
            | (refine z_front rfl 4 rfl ?_; refine o_append rfl tabOk zeroOk rfl rfl rfl rfl rfl rfl (by first | assumption | exact Rds.cons _ (by assumption) | exact Rds.cons _ (Rds.cons _ (by assumption)) | exact own_rds 0 rfl | exact own_rds 1 rfl | exact own_rds 2 rfl) (by first | rfl | simp) (by first | rfl | simp) (by omega) (by omega) (by decide) fun A' c' => ?_)
            | (refine z_front rfl 5 rfl ?_; refine o_append rfl tabOk zeroOk rfl rfl rfl rfl rfl rfl (by first | assumption | exact Rds.cons _ (by assumption) | exact Rds.cons _ (Rds.cons _ (by assumption)) | exact own_rds 0 rfl | exact own_rds 1 rfl | exact own_rds 2 rfl) (by first | rfl | simp) (by first | rfl | simp) (by omega) (by omega) (by decide) fun A' c' => ?_))
        | refine o_move rfl (by decide) ?_
        | refine o_assign rfl (by decide) ?_
        | refine o_nil rfl (by decide) ?_
        | refine o_extract rfl rfl (by decide) ?_
        | refine o_not rfl (by decide) ?_
        | refine o_field0 tabOk rfl rfl rfl rfl rfl (by decide) ?_
        | refine o_field tabOk rfl rfl rfl rfl rfl (by decide) ?_
        | refine o_conv tabOk rfl rfl rfl (by decide) ?_))
def byF (xs : List Int) (i : Nat) : Int := xs.getD i 0
theorem byF_by {xs : List Int} (h : ∀ z ∈ xs, 0 ≤ z ∧ z ≤ 255) : By (byF xs) := fun j => by
  unfold byF
  rcases Nat.lt_or_ge j xs.length with hj | hj
  · simp only [List.getD_eq_getElem?_getD, List.getElem?_eq_getElem hj, Option.getD_some]; exact h _ (List.getElem_mem hj)
  · simp [List.getElem?_eq_none hj]
theorem byF_step (xs : List Int) (k : Nat) : upd (fun j => if j < k then byF xs j else 0) k (xs.getD k 0) = fun j => if j < k + 1 then byF xs j else 0 := by
  funext j
  unfold upd byF
  by_cases h : j = k
  · subst h; simp
  · rw [if_neg h]
    show (if j < k then xs.getD j 0 else 0) = _
    by_cases h' : j < k
    · rw [if_pos h', if_pos (by omega)]
    · rw [if_neg h', if_neg (by omega)]
theorem byF_end {xs : List Int} {k : Nat} (h : ¬ (k < xs.length ∧ k < 64)) : bm (fun j => if j < k then byF xs j else 0) = bm (byF xs) := bm_congr fun i hi => by
  unfold byF
  by_cases h' : i < k
  · rw [if_pos h']
  · rw [if_neg h', List.getD_eq_getElem?_getD, List.getElem?_eq_none (by omega)]; rfl
def u8l (l : List Int) : List Value := l.map (Value.int .u8)
theorem u8l_at (l : List Int) {i : Nat} (h : i < l.length) : (u8l l)[i]? = some (.int .u8 (l.getD i 0)) := by unfold u8l; simp [h]
theorem ofb_c (xs : List Int) (A : Option Addr) (c : Nat) (fr : List Chunk) (hrd : Rds fr A (u8l xs)) (hx : xs.length ≤ 9223372036854775807) :
    Does Try.prog 13 [.slice A xs.length c] fr (fun _ : Unit => True) (fun _ => .agg (bm (byF xs)).toArray) (fun _ => fr) := by
  intro w hw
  have hne : 0 < xs.length → A ≠ none := fun h => hrd.ne hw (by simpa [u8l] using h)
  refine f_enter Try.func13 rfl Try.ntmps13 rfl hw ?_
  repeat' (first
    | (refine s_is ?_; first
        | (refine s_isagain ?_; first
            | (exact c_again (k + 1) (by omega) (by omega) ⟨rfl, rfl, rfl, rfl, trivial⟩ (fun w h => by rw [← byF_step xs k]; exact h)))
        | (refine s_isret ?_; first
            | exact f_r1 rfl (res_c tabOk rfl rfl rfl 1 rfl (bm_len _)) () trivial (by rw [byF_end (by omega)]) (fun w h => h.sub (List.sublist_append_right [_, _] _)))
        | (refine s_isw ?_; first
            | (refine s_isloop ?_; first
                | ((rename_i g1; refine c_loop (X := Nat) (fun k => k ≤ 64 ∧ k ≤ xs.length) (fun k => [(0, .slice A xs.length c), (2, .pointer (some ⟨g1, 0, none⟩)), (3, .pointer (some ⟨g, 0, none⟩)), (4, .int .i64 k)]) (fun k => cells g 23 (bm (fun j => if j < k then byF xs j else 0)) :: cells g1 23 (bm (fun _ => 0)) :: fr) (fun k => 64 - k) 0 ⟨Nat.zero_le _, Nat.zero_le _⟩ ⟨rfl, rfl, rfl, rfl, trivial⟩ (fun w h => by have e : (fun j => if j < 0 then byF xs j else 0) = fun _ => 0 := (by funext j; simp); rw [e]; exact h) (fun k hk => ?_))))
            | refine c_seq ?_
            | refine c_block ?_
            | refine c_region ?_
            | refine c_mixed mixed (by kernel_rfl) ?_
            | refine c_skip ?_
            | refine c_ret ?_
            | refine c_exit ?_
            | (refine s_iscond ?_; first
                | (refine c_true rfl (by first | with_reducible rfl | ((with_reducible refine decide_eq_true ?_); first | with_reducible rfl | with_reducible assumption | omega) | (simp only [Bool.not_eq_true', decide_eq_false_iff_not]; omega) | (with_reducible assumption) | (rw [decide_eq_false] <;> (first | omega | with_reducible rfl)) | (rw [decide_eq_true] <;> (first | omega | with_reducible rfl)) | (simp; done) | (simp; omega)) ?_)
                | (refine c_false rfl (by first | with_reducible rfl | ((with_reducible refine decide_eq_false ?_); first | with_reducible assumption | omega) | (simp only [Bool.not_eq_false', decide_eq_true_eq]; omega) | (with_reducible assumption) | (rw [decide_eq_false] <;> (first | omega | with_reducible rfl)) | (rw [decide_eq_true] <;> (first | omega | with_reducible rfl)) | (simp; done) | (simp; omega)) ?_)
                | refine c_cond rfl (fun hc => ?_) (fun hc => ?_)
                | refine c_condb rfl (fun hc => ?_) (fun hc => ?_)))
        | refine x_then ?_
        | refine x_then_ret ?_
        | refine x_then_exit ?_
        | refine x_block _ ?_
        | refine x_block_ret _ ?_
        | refine x_block_exit _ ?_
        | refine x_block_past (by decide) ?_
        | refine z_tailm ?_)
    | (refine z_isguard ?_; first
        | (refine z_want rfl rfl (by first | with_reducible rfl | ((with_reducible refine decide_eq_true ?_); first | with_reducible rfl | with_reducible assumption | omega) | ((with_reducible refine decide_eq_false ?_); first | with_reducible assumption | omega) | (simp only [Bool.not_eq_true', Bool.not_eq_false', decide_eq_false_iff_not, decide_eq_true_eq]; omega) | (with_reducible assumption) | (rw [decide_eq_false] <;> (first | omega | with_reducible rfl)) | (rw [decide_eq_true] <;> (first | omega | with_reducible rfl)) | (simp; done) | (simp; omega)) ?_)
        | (refine z_skip (by decide) rfl rfl (by first | with_reducible rfl | ((with_reducible refine decide_eq_true ?_); first | with_reducible rfl | with_reducible assumption | omega) | ((with_reducible refine decide_eq_false ?_); first | with_reducible assumption | omega) | (simp only [Bool.not_eq_true', Bool.not_eq_false', decide_eq_false_iff_not, decide_eq_true_eq]; omega) | (with_reducible assumption) | (rw [decide_eq_false] <;> (first | omega | with_reducible rfl)) | (rw [decide_eq_true] <;> (first | omega | with_reducible rfl)) | (simp; done) | (simp; omega)) ?_)
        | refine z_skipu (by decide) rfl rfl ?_
        | refine z_guard1 (by decide) rfl rfl (fun hc => ?_) (fun hc => ?_)
        | refine z_guard0 (by decide) rfl rfl (fun hc => ?_) (fun hc => ?_)
        | refine z_guardb (by decide) rfl rfl (fun hc => ?_) (fun hc => ?_))
    | (refine z_isnil ?_; first
        | refine z_list ?_
        | refine z_mixed ?_
        | refine z_mono0 ?_
        | refine z_mono1 (by decide) fun g => ?_
        | refine z_mono2 (by decide) (by decide) fun g g' => ?_
        | refine z_mixedx ?_
        | refine z_quiet ?_)
    | (refine z_isop ?_; first
        | refine o_build (v := .agg (bm (fun _ => 0)).toArray) rfl (fun _ => by kernel_rfl) (by decide) ?_
        | refine o_boxa rfl rfl (by decide) fun g => ?_
        | refine o_alloca (e := 26) (vs := bm (fun _ => 0)) rfl (by kernel_rfl) (by decide) fun g => ?_
        | refine o_alloca (e := 24) (vs := bm (fun _ => 0)) rfl (by kernel_rfl) (by decide) fun g => ?_
        | refine o_alloca (e := 23) (vs := bm (fun _ => 0)) rfl (by kernel_rfl) (by decide) fun g => ?_
        | refine o_alloca (e := 49) (vs := rm (fun _ => false)) rfl (by kernel_rfl) (by decide) fun g => ?_
        | (refine z_isbin ?_; first
            | (refine z_isb .add ?_; first
                | refine o_add rfl rfl (by omega) (by omega) (by decide) ?_
                | refine o_addw rfl rfl (by decide) ?_)
            | (refine z_isb .sub ?_; first
                | refine o_sub rfl rfl (by omega) (by omega) (by decide) ?_
                | refine o_subw rfl rfl (by decide) ?_)
            | (refine z_isb .mul ?_; first
                | refine o_mul rfl rfl (by omega) (by omega) (by decide) ?_
                | refine o_mulw rfl rfl (by decide) ?_)
            | (refine z_isb .eql ?_; first
                | refine o_eq rfl rfl (by decide) ?_
                | refine o_beq tabOk rfl rfl rfl (by decide) ?_
                | refine o_peq tabOk rfl rfl (by decide) ?_)
            | (refine z_isb .neq ?_; first
                | refine o_ne rfl rfl (by decide) ?_
                | refine o_bne tabOk rfl rfl rfl (by decide) ?_
                | refine o_pne tabOk rfl rfl (by decide) ?_)
            | (refine z_isb .lss ?_; first
                | refine o_lt rfl rfl (by decide) ?_)
            | (refine z_isb .leq ?_; first
                | refine o_le rfl rfl (by decide) ?_)
            | (refine z_isb .gtr ?_; first
                | refine o_gt rfl rfl (by decide) ?_)
            | (refine z_isb .geq ?_; first
                | refine o_ge rfl rfl (by decide) ?_)
            | (refine z_isb .quo ?_; first
                | refine o_quo rfl rfl (by omega) (by omega) (by omega) (by decide) ?_
                | refine o_quo8 rfl rfl (by omega) (by omega) (by omega) (by decide) ?_
                | refine o_quot rfl rfl (by omega) (by decide) ?_)
            | (refine z_isb .rem ?_; first
                | refine o_rem rfl rfl (by omega) (by omega) (by decide) ?_
                | refine o_remk rfl rfl (by omega) (by omega) (by decide) ?_
                | refine o_remt rfl rfl (by omega) (by decide) ?_)
            | (refine z_isb .and ?_; first
                | refine o_and rfl rfl (by decide) ?_)
            | (refine z_isb .or ?_; first
                | refine o_or rfl rfl (by decide) ?_)
            | (refine z_isb .andNot ?_; first
                | refine o_andNot rfl rfl (by decide) ?_)
            | (refine z_isb .shl ?_; first
                | refine o_shl rfl rfl (by omega) (by decide) ?_)
            | (refine z_isb .shr ?_; first
                | refine o_shr rfl rfl (by omega) (by decide) ?_))
        | (refine z_isload ?_; first
            | (refine z_ld1 tabOk rfl rfl ?_; first
                | ((refine z_ldi 0 rfl rfl ?_; refine o_load tabOk rfl rfl rfl 0 rfl (by first | exact bm_at _ (by omega) | exact rm_at _ (by omega) | exact u8l_at _ (by omega) | rfl) (by decide) ?_))
                | ((refine z_ldi 1 rfl rfl ?_; refine o_load tabOk rfl rfl rfl 1 rfl (by first | exact bm_at _ (by omega) | exact rm_at _ (by omega) | exact u8l_at _ (by omega) | rfl) (by decide) ?_))
                | ((refine z_ldi 2 rfl rfl ?_; refine o_load tabOk rfl rfl rfl 2 rfl (by first | exact bm_at _ (by omega) | exact rm_at _ (by omega) | exact u8l_at _ (by omega) | rfl) (by decide) ?_))
                | ((refine z_ldi 3 rfl rfl ?_; refine o_load tabOk rfl rfl rfl 3 rfl (by first | exact bm_at _ (by omega) | exact rm_at _ (by omega) | exact u8l_at _ (by omega) | rfl) (by decide) ?_))
                | ((refine z_ldi 4 rfl rfl ?_; refine o_load tabOk rfl rfl rfl 4 rfl (by first | exact bm_at _ (by omega) | exact rm_at _ (by omega) | exact u8l_at _ (by omega) | rfl) (by decide) ?_))
                | ((refine z_ldi 5 rfl rfl ?_; refine o_load tabOk rfl rfl rfl 5 rfl (by first | exact bm_at _ (by omega) | exact rm_at _ (by omega) | exact u8l_at _ (by omega) | rfl) (by decide) ?_))
                | ((refine z_ldi 6 rfl rfl ?_; refine o_load tabOk rfl rfl rfl 6 rfl (by first | exact bm_at _ (by omega) | exact rm_at _ (by omega) | exact u8l_at _ (by omega) | rfl) (by decide) ?_))
                | refine o_loads tabOk (by first | assumption | exact Rds.cons _ (by assumption) | exact Rds.cons _ (Rds.cons _ (by assumption)) | exact own_rds 0 rfl | exact own_rds 1 rfl | exact own_rds 2 rfl) rfl rfl rfl (by first | exact bm_at _ (by omega) | exact rm_at _ (by omega) | exact u8l_at _ (by omega) | rfl) (by decide) ?_)
            | (refine z_ldw tabOk rfl rfl ?_; first
                | ((refine z_ldi 0 rfl rfl ?_; refine o_loadw tabOk rfl rfl rfl 0 rfl (by first | exact bm_len _ | exact rm_len _ | (simp only [bm_len, rm_len]) | rfl) (by decide) ?_))
                | ((refine z_ldi 1 rfl rfl ?_; refine o_loadw tabOk rfl rfl rfl 1 rfl (by first | exact bm_len _ | exact rm_len _ | (simp only [bm_len, rm_len]) | rfl) (by decide) ?_))
                | ((refine z_ldi 2 rfl rfl ?_; refine o_loadw tabOk rfl rfl rfl 2 rfl (by first | exact bm_len _ | exact rm_len _ | (simp only [bm_len, rm_len]) | rfl) (by decide) ?_))
                | ((refine z_ldi 3 rfl rfl ?_; refine o_loadw tabOk rfl rfl rfl 3 rfl (by first | exact bm_len _ | exact rm_len _ | (simp only [bm_len, rm_len]) | rfl) (by decide) ?_))
                | ((refine z_ldi 4 rfl rfl ?_; refine o_loadw tabOk rfl rfl rfl 4 rfl (by first | exact bm_len _ | exact rm_len _ | (simp only [bm_len, rm_len]) | rfl) (by decide) ?_))
                | ((refine z_ldi 5 rfl rfl ?_; refine o_loadw tabOk rfl rfl rfl 5 rfl (by first | exact bm_len _ | exact rm_len _ | (simp only [bm_len, rm_len]) | rfl) (by decide) ?_))
                | ((refine z_ldi 6 rfl rfl ?_; refine o_loadw tabOk rfl rfl rfl 6 rfl (by first | exact bm_len _ | exact rm_len _ | (simp only [bm_len, rm_len]) | rfl) (by decide) ?_))))
        | (refine z_isstore ?_; first
            | (refine z_stw rfl ?_; first
                | ((refine z_sti 0 rfl rfl ?_; refine o_storeb0 rfl tabOk rfl rfl rfl (by first | exact bm_len _ | exact rm_len _ | (simp only [bm_len, rm_len]) | rfl) (by first | exact bm_one _ | exact rm_one _ | rfl) (by first | exact bm_len _ | exact rm_len _ | (simp only [bm_len, rm_len]) | rfl) ?_))
                | ((refine z_sti 1 rfl rfl ?_; refine o_storeb1 rfl tabOk rfl rfl rfl (by first | exact bm_len _ | exact rm_len _ | (simp only [bm_len, rm_len]) | rfl) (by first | exact bm_one _ | exact rm_one _ | rfl) (by first | exact bm_len _ | exact rm_len _ | (simp only [bm_len, rm_len]) | rfl) ?_))
                | ((refine z_sti 2 rfl rfl ?_; refine o_storeb2 rfl tabOk rfl rfl rfl (by first | exact bm_len _ | exact rm_len _ | (simp only [bm_len, rm_len]) | rfl) (by first | exact bm_one _ | exact rm_one _ | rfl) (by first | exact bm_len _ | exact rm_len _ | (simp only [bm_len, rm_len]) | rfl) ?_))
                | ((refine z_sti 3 rfl rfl ?_; refine o_storeb3 rfl tabOk rfl rfl rfl (by first | exact bm_len _ | exact rm_len _ | (simp only [bm_len, rm_len]) | rfl) (by first | exact bm_one _ | exact rm_one _ | rfl) (by first | exact bm_len _ | exact rm_len _ | (simp only [bm_len, rm_len]) | rfl) ?_))
                | ((refine z_sti 4 rfl rfl ?_; refine o_storeb4 rfl tabOk rfl rfl rfl (by first | exact bm_len _ | exact rm_len _ | (simp only [bm_len, rm_len]) | rfl) (by first | exact bm_one _ | exact rm_one _ | rfl) (by first | exact bm_len _ | exact rm_len _ | (simp only [bm_len, rm_len]) | rfl) ?_))
                | ((refine z_sti 5 rfl rfl ?_; refine o_storeb5 rfl tabOk rfl rfl rfl (by first | exact bm_len _ | exact rm_len _ | (simp only [bm_len, rm_len]) | rfl) (by first | exact bm_one _ | exact rm_one _ | rfl) (by first | exact bm_len _ | exact rm_len _ | (simp only [bm_len, rm_len]) | rfl) ?_))
                | ((refine z_sti 6 rfl rfl ?_; refine o_storeb6 rfl tabOk rfl rfl rfl (by first | exact bm_len _ | exact rm_len _ | (simp only [bm_len, rm_len]) | rfl) (by first | exact bm_one _ | exact rm_one _ | rfl) (by first | exact bm_len _ | exact rm_len _ | (simp only [bm_len, rm_len]) | rfl) ?_)))
            | (refine z_st1 rfl rfl ?_; first
                | refine o_store rfl tabOk rfl rfl rfl rfl rfl (by first | exact bm_at _ (by omega) | exact rm_at _ (by omega) | exact u8l_at _ (by omega) | rfl) (by first | exact bm_set _ _ _ | exact rm_set _ _ _ | rfl) ?_
                | ((refine z_sti 1 rfl rfl ?_; refine o_store1 rfl tabOk rfl rfl rfl rfl rfl (by first | exact bm_at _ (by omega) | exact rm_at _ (by omega) | exact u8l_at _ (by omega) | rfl) (by first | exact bm_set _ _ _ | exact rm_set _ _ _ | rfl) ?_))
                | ((refine z_sti 2 rfl rfl ?_; refine o_store2 rfl tabOk rfl rfl rfl rfl rfl (by first | exact bm_at _ (by omega) | exact rm_at _ (by omega) | exact u8l_at _ (by omega) | rfl) (by first | exact bm_set _ _ _ | exact rm_set _ _ _ | rfl) ?_))
                | ((refine z_sti 3 rfl rfl ?_; refine o_store3 rfl tabOk rfl rfl rfl rfl rfl (by first | exact bm_at _ (by omega) | exact rm_at _ (by omega) | exact u8l_at _ (by omega) | rfl) (by first | exact bm_set _ _ _ | exact rm_set _ _ _ | rfl) ?_))
                | ((refine z_sti 4 rfl rfl ?_; refine o_store4 rfl tabOk rfl rfl rfl rfl rfl (by first | exact bm_at _ (by omega) | exact rm_at _ (by omega) | exact u8l_at _ (by omega) | rfl) (by first | exact bm_set _ _ _ | exact rm_set _ _ _ | rfl) ?_))
                | ((refine z_sti 5 rfl rfl ?_; refine o_store5 rfl tabOk rfl rfl rfl rfl rfl (by first | exact bm_at _ (by omega) | exact rm_at _ (by omega) | exact u8l_at _ (by omega) | rfl) (by first | exact bm_set _ _ _ | exact rm_set _ _ _ | rfl) ?_))
                | ((refine z_sti 6 rfl rfl ?_; refine o_store6 rfl tabOk rfl rfl rfl rfl rfl (by first | exact bm_at _ (by omega) | exact rm_at _ (by omega) | exact u8l_at _ (by omega) | rfl) (by first | exact bm_set _ _ _ | exact rm_set _ _ _ | rfl) ?_))))
        | (refine z_isfield ?_; first
            | refine o_fv tabOk rfl rfl rfl rfl rfl (by first | exact bm_at _ (by omega) | exact rm_at _ (by omega) | exact u8l_at _ (by omega) | rfl) (by decide) ?_
            | refine o_fvw tabOk rfl rfl rfl rfl rfl (by first | exact bm_len _ | exact rm_len _ | (simp only [bm_len, rm_len]) | rfl) (by decide) ?_)
        | (refine z_isindex ?_; first
            | refine o_ixv tabOk rfl rfl rfl rfl rfl (by omega) (by omega) (by first | exact bm_at _ (by omega) | exact rm_at _ (by omega) | exact u8l_at _ (by omega) | rfl) (by decide) ?_)
        | (refine z_ismakes ?_; first
            | refine o_make1 rfl tabOk zeroOk rfl rfl rfl rfl rfl (by decide) fun g => ?_)
        | (refine z_iscall ?_; first
            | ((refine z_iscallf 44 ?_; refine o_fn rfl Try.func44 rfl rfl rfl (in_fn _) (by decide) ?_))
            | ((refine z_iscallf 16 ?_; refine o_fn rfl Try.func16 rfl rfl rfl (has_fn _ (by assumption) _) (by decide) ?_)))
        | (refine z_ispick ?_; first
            | (refine o_pick1 rfl (by first | with_reducible rfl | ((with_reducible refine decide_eq_true ?_); first | with_reducible rfl | with_reducible assumption | omega) | (simp only [Bool.not_eq_true', decide_eq_false_iff_not]; omega) | (with_reducible assumption) | (rw [decide_eq_false] <;> (first | omega | with_reducible rfl)) | (rw [decide_eq_true] <;> (first | omega | with_reducible rfl)) | (simp; done) | (simp; omega)) rfl (by decide) ?_)
            | (refine o_pick0 rfl (by first | with_reducible rfl | ((with_reducible refine decide_eq_false ?_); first | with_reducible assumption | omega) | (simp only [Bool.not_eq_false', decide_eq_true_eq]; omega) | (with_reducible assumption) | (rw [decide_eq_false] <;> (first | omega | with_reducible rfl)) | (rw [decide_eq_true] <;> (first | omega | with_reducible rfl)) | (simp; done) | (simp; omega)) rfl (by decide) ?_))
        | (refine z_isix ?_; first
            | refine o_index0 tabOk rfl rfl rfl rfl (by omega) (by omega) (by decide) ?_
            | refine o_index1 tabOk rfl rfl rfl rfl (by omega) (by omega) (by decide) ?_
            | refine o_indexsk tabOk rfl rfl rfl rfl (by omega) (by omega) (by decide) ?_
            | refine o_indexs1 tabOk (by first | assumption | exact hne (by omega) | assumption) rfl rfl rfl rfl (by omega) (by omega) (by decide) ?_)
        | (refine z_isslice ?_; first
            | refine o_slice tabOk rfl rfl rfl rfl rfl (by omega) (by omega) (by omega) (by decide) ?_
            | refine o_slicel tabOk rfl rfl rfl rfl (by omega) (by omega) (by omega) (by decide) ?_
            | refine o_sliceh tabOk rfl rfl rfl rfl (by omega) (by omega) (by decide) ?_
            | refine o_slp tabOk rfl rfl rfl rfl rfl (by omega) (by omega) (by omega) (by omega) (by decide) ?_
            | refine o_slpl tabOk rfl rfl rfl rfl (by omega) (by omega) (by decide) ?_
            | refine o_slp0 tabOk rfl rfl rfl rfl (by decide) ?_)
        | (refine z_isbi ?_; first
            | refine o_len tabOk rfl rfl (by decide) ?_
            | refine o_min rfl rfl (by decide) ?_
            | refine o_max rfl rfl (by decide) ?_
            | refine o_append rfl tabOk zeroOk rfl rfl rfl rfl rfl rfl (by first | assumption | exact Rds.cons _ (by assumption) | exact Rds.cons _ (Rds.cons _ (by assumption)) | exact own_rds 0 rfl | exact own_rds 1 rfl | exact own_rds 2 rfl) (by first | rfl | simp) (by first | rfl | simp) (by omega) (by omega) (by decide) fun A' c' => ?_
            | (refine z_front rfl 1 rfl ?_; refine o_append rfl tabOk zeroOk rfl rfl rfl rfl rfl rfl (by first | assumption | exact Rds.cons _ (by assumption) | exact Rds.cons _ (Rds.cons _ (by assumption)) | exact own_rds 0 rfl | exact own_rds 1 rfl | exact own_rds 2 rfl) (by first | rfl | simp) (by first | rfl | simp) (by omega) (by omega) (by decide) fun A' c' => ?_)
            | (refine z_front rfl 2 rfl ?_; refine o_append rfl tabOk zeroOk rfl rfl rfl rfl rfl rfl (by first | assumption | exact Rds.cons _ (by assumption) | exact Rds.cons _ (Rds.cons _ (by assumption)) | exact own_rds 0 rfl | exact own_rds 1 rfl | exact own_rds 2 rfl) (by first | rfl | simp) (by first | rfl | simp) (by omega) (by omega) (by decide) fun A' c' => ?_)
            | (refine z_front rfl 3 rfl ?_; refine o_append rfl tabOk zeroOk rfl rfl rfl rfl rfl rfl (by first | assumption | exact Rds.cons _ (by assumption) | exact Rds.cons _ (Rds.cons _ (by assumption)) | exact own_rds 0 rfl | exact own_rds 1 rfl | exact own_rds 2 rfl) (by first | rfl | simp) (by first | rfl | simp) (by omega) (by omega) (by decide) fun A' c' => ?_)
            | (refine z_front rfl 4 rfl ?_; refine o_append rfl tabOk zeroOk rfl rfl rfl rfl rfl rfl (by first | assumption | exact Rds.cons _ (by assumption) | exact Rds.cons _ (Rds.cons _ (by assumption)) | exact own_rds 0 rfl | exact own_rds 1 rfl | exact own_rds 2 rfl) (by first | rfl | simp) (by first | rfl | simp) (by omega) (by omega) (by decide) fun A' c' => ?_)
            | (refine z_front rfl 5 rfl ?_; refine o_append rfl tabOk zeroOk rfl rfl rfl rfl rfl rfl (by first | assumption | exact Rds.cons _ (by assumption) | exact Rds.cons _ (Rds.cons _ (by assumption)) | exact own_rds 0 rfl | exact own_rds 1 rfl | exact own_rds 2 rfl) (by first | rfl | simp) (by first | rfl | simp) (by omega) (by omega) (by decide) fun A' c' => ?_))
        | refine o_move rfl (by decide) ?_
        | refine o_assign rfl (by decide) ?_
        | refine o_nil rfl (by decide) ?_
        | refine o_extract rfl rfl (by decide) ?_
        | refine o_not rfl (by decide) ?_
        | refine o_field0 tabOk rfl rfl rfl rfl rfl (by decide) ?_
        | refine o_field tabOk rfl rfl rfl rfl rfl (by decide) ?_
        | refine o_conv tabOk rfl rfl rfl (by decide) ?_))
end Go.Proofs.Ytjejnlfbonpfaaa
