/-
Walks over package bitmap and the document's bitmap, more: how many, the first one, the document's map of a block, the chapter's example.
-/
import Derived.Test.YtjejnlfbonpfaaaBit
namespace Go.Proofs.Ytjejnlfbonpfaaa
set_option linter.unusedVariables false
set_option linter.unusedSimpArgs false
open Eng
attribute [local irreducible] Eng.Z Eng.S bm rm hasB tb takeB
theorem pop_le (x : Nat) : pop x ≤ 8 := by rw [pop_eq]; exact cn_le _ _ _
theorem pop_val (x : Nat) : Value.int .i64 (pop x) = Value.int .i64 (IntKind.i64.wrap ((UInt8.ofNat (pop x)).toNat : Int)) := by
  have h := pop_le x
  have e : (UInt8.ofNat (pop x)).toNat = pop x := by simp; omega
  rw [e]
  exact int_eq (wrap64_id (by omega) (by omega)).symm
theorem ones_fn (x : Int) (h0 : 0 ≤ x) (h1 : x ≤ 255) : Pf Try.prog 43 [.int .u8 x] (.int .i64 (pop x.toNat)) := by
  intro w hw
  refine f_enter Try.func43 rfl Try.ntmps43 rfl hw ?_
  repeat' (first
    | (refine s_is ?_; first
        | (refine s_isret ?_; first
            | (exact p_r1 rfl (res_t (by rw [pop_val]; rfl))))
        | (refine s_isw ?_; first
            | refine c_seq ?_
            | refine c_block ?_
            | refine c_region ?_
            | refine c_mixed mixed (by kernel_rfl) ?_
            | refine c_skip ?_
            | refine c_ret ?_
            | refine c_exit ?_
            | (refine s_iscond ?_; first
                | (refine c_true rfl (by first | with_reducible rfl | ((with_reducible refine decide_eq_true ?_); first | with_reducible rfl | with_reducible assumption | omega) | (simp only [Bool.not_eq_true', decide_eq_false_iff_not]; omega) | (with_reducible assumption) | (rw [decide_eq_false] <;> (first | omega | with_reducible rfl)) | (rw [decide_eq_true] <;> (first | omega | with_reducible rfl)) | (simp; done) | (simp; omega)) ?_)
                | (refine c_false rfl (by first | with_reducible rfl | ((with_reducible refine decide_eq_false ?_); first | with_reducible assumption | omega) | (simp only [Bool.not_eq_false', decide_eq_true_eq]; omega) | (with_reducible assumption) | (rw [decide_eq_false] <;> (first | omega | with_reducible rfl)) | (rw [decide_eq_true] <;> (first | omega | with_reducible rfl)) | (simp; done) | (simp; omega)) ?_)
                | refine c_cond rfl (fun hc => ?_) (fun hc => ?_)
                | refine c_condb rfl (fun hc => ?_) (fun hc => ?_)))
        | refine x_then ?_
        | refine x_then_ret ?_
        | refine x_then_exit ?_
        | refine x_block _ ?_
        | refine x_block_ret _ ?_
        | refine x_block_exit _ ?_
        | refine x_block_past (by decide) ?_
        | refine z_tailm ?_)
    | (refine z_isguard ?_; first
        | (refine z_want rfl rfl (by first | with_reducible rfl | ((with_reducible refine decide_eq_true ?_); first | with_reducible rfl | with_reducible assumption | omega) | ((with_reducible refine decide_eq_false ?_); first | with_reducible assumption | omega) | (simp only [Bool.not_eq_true', Bool.not_eq_false', decide_eq_false_iff_not, decide_eq_true_eq]; omega) | (with_reducible assumption) | (rw [decide_eq_false] <;> (first | omega | with_reducible rfl)) | (rw [decide_eq_true] <;> (first | omega | with_reducible rfl)) | (simp; done) | (simp; omega)) ?_)
        | (refine z_skip (by decide) rfl rfl (by first | with_reducible rfl | ((with_reducible refine decide_eq_true ?_); first | with_reducible rfl | with_reducible assumption | omega) | ((with_reducible refine decide_eq_false ?_); first | with_reducible assumption | omega) | (simp only [Bool.not_eq_true', Bool.not_eq_false', decide_eq_false_iff_not, decide_eq_true_eq]; omega) | (with_reducible assumption) | (rw [decide_eq_false] <;> (first | omega | with_reducible rfl)) | (rw [decide_eq_true] <;> (first | omega | with_reducible rfl)) | (simp; done) | (simp; omega)) ?_)
        | refine z_skipu (by decide) rfl rfl ?_
        | refine z_guard1 (by decide) rfl rfl (fun hc => ?_) (fun hc => ?_)
        | refine z_guard0 (by decide) rfl rfl (fun hc => ?_) (fun hc => ?_)
        | refine z_guardb (by decide) rfl rfl (fun hc => ?_) (fun hc => ?_))
    | (refine z_isnil ?_; first
        | refine z_list ?_
        | refine z_mixed ?_
        | refine z_mono0 ?_
        | refine z_mono1 (by decide) fun g => ?_
        | refine z_mono2 (by decide) (by decide) fun g g' => ?_
        | refine z_mixedx ?_
        | refine z_quiet ?_)
    | (refine z_isop ?_; first
        | refine o_ixs (b := UInt8.ofNat (pop x.toNat)) rfl rfl (by kernel_rfl) h0 (by exact (show ∀ m : Fin 256, (_ : ByteArray)[m.val]? = some (UInt8.ofNat (pop m.val)) from by decide +kernel) ⟨x.toNat, by omega⟩) (by decide) ?_
        | refine o_boxa rfl rfl (by decide) fun g => ?_
        | refine o_alloca (e := 26) (vs := bm (fun _ => 0)) rfl (by kernel_rfl) (by decide) fun g => ?_
        | refine o_alloca (e := 24) (vs := bm (fun _ => 0)) rfl (by kernel_rfl) (by decide) fun g => ?_
        | refine o_alloca (e := 23) (vs := bm (fun _ => 0)) rfl (by kernel_rfl) (by decide) fun g => ?_
        | refine o_alloca (e := 49) (vs := rm (fun _ => false)) rfl (by kernel_rfl) (by decide) fun g => ?_
        | (refine z_isbin ?_; first
            | (refine z_isb .add ?_; first
                | refine o_add rfl rfl (by omega) (by omega) (by decide) ?_
                | refine o_addw rfl rfl (by decide) ?_)
            | (refine z_isb .sub ?_; first
                | refine o_sub rfl rfl (by omega) (by omega) (by decide) ?_
                | refine o_subw rfl rfl (by decide) ?_)
            | (refine z_isb .mul ?_; first
                | refine o_mul rfl rfl (by omega) (by omega) (by decide) ?_
                | refine o_mulw rfl rfl (by decide) ?_)
            | (refine z_isb .eql ?_; first
                | refine o_eq rfl rfl (by decide) ?_
                | refine o_beq tabOk rfl rfl rfl (by decide) ?_
                | refine o_peq tabOk rfl rfl (by decide) ?_)
            | (refine z_isb .neq ?_; first
                | refine o_ne rfl rfl (by decide) ?_
                | refine o_bne tabOk rfl rfl rfl (by decide) ?_
                | refine o_pne tabOk rfl rfl (by decide) ?_)
            | (refine z_isb .lss ?_; first
                | refine o_lt rfl rfl (by decide) ?_)
            | (refine z_isb .leq ?_; first
                | refine o_le rfl rfl (by decide) ?_)
            | (refine z_isb .gtr ?_; first
                | refine o_gt rfl rfl (by decide) ?_)
            | (refine z_isb .geq ?_; first
                | refine o_ge rfl rfl (by decide) ?_)
            | (refine z_isb .quo ?_; first
                | refine o_quo rfl rfl (by omega) (by omega) (by omega) (by decide) ?_
                | refine o_quo8 rfl rfl (by omega) (by omega) (by omega) (by decide) ?_
                | refine o_quot rfl rfl (by omega) (by decide) ?_)
            | (refine z_isb .rem ?_; first
                | refine o_rem rfl rfl (by omega) (by omega) (by decide) ?_
                | refine o_remk rfl rfl (by omega) (by omega) (by decide) ?_
                | refine o_remt rfl rfl (by omega) (by decide) ?_)
            | (refine z_isb .and ?_; first
                | refine o_and rfl rfl (by decide) ?_)
            | (refine z_isb .or ?_; first
                | refine o_or rfl rfl (by decide) ?_)
            | (refine z_isb .andNot ?_; first
                | refine o_andNot rfl rfl (by decide) ?_)
            | (refine z_isb .shl ?_; first
                | refine o_shl rfl rfl (by omega) (by decide) ?_)
            | (refine z_isb .shr ?_; first
                | refine o_shr rfl rfl (by omega) (by decide) ?_))
        | (refine z_isload ?_; first
            | (refine z_ld1 tabOk rfl rfl ?_; first
                | ((refine z_ldi 0 rfl rfl ?_; refine o_load tabOk rfl rfl rfl 0 rfl (by first | exact bm_at _ (by omega) | exact rm_at _ (by omega) | rfl) (by decide) ?_))
                | ((refine z_ldi 1 rfl rfl ?_; refine o_load tabOk rfl rfl rfl 1 rfl (by first | exact bm_at _ (by omega) | exact rm_at _ (by omega) | rfl) (by decide) ?_))
                | ((refine z_ldi 2 rfl rfl ?_; refine o_load tabOk rfl rfl rfl 2 rfl (by first | exact bm_at _ (by omega) | exact rm_at _ (by omega) | rfl) (by decide) ?_))
                | ((refine z_ldi 3 rfl rfl ?_; refine o_load tabOk rfl rfl rfl 3 rfl (by first | exact bm_at _ (by omega) | exact rm_at _ (by omega) | rfl) (by decide) ?_))
                | ((refine z_ldi 4 rfl rfl ?_; refine o_load tabOk rfl rfl rfl 4 rfl (by first | exact bm_at _ (by omega) | exact rm_at _ (by omega) | rfl) (by decide) ?_))
                | ((refine z_ldi 5 rfl rfl ?_; refine o_load tabOk rfl rfl rfl 5 rfl (by first | exact bm_at _ (by omega) | exact rm_at _ (by omega) | rfl) (by decide) ?_))
                | ((refine z_ldi 6 rfl rfl ?_; refine o_load tabOk rfl rfl rfl 6 rfl (by first | exact bm_at _ (by omega) | exact rm_at _ (by omega) | rfl) (by decide) ?_))
                | refine o_loads tabOk (by first | assumption | exact Rds.cons _ (by assumption) | exact Rds.cons _ (Rds.cons _ (by assumption)) | exact own_rds 0 rfl | exact own_rds 1 rfl | exact own_rds 2 rfl) rfl rfl rfl (by first | exact bm_at _ (by omega) | exact rm_at _ (by omega) | rfl) (by decide) ?_)
            | (refine z_ldw tabOk rfl rfl ?_; first
                | ((refine z_ldi 0 rfl rfl ?_; refine o_loadw tabOk rfl rfl rfl 0 rfl (by first | exact bm_len _ | exact rm_len _ | (simp only [bm_len, rm_len]) | rfl) (by decide) ?_))
                | ((refine z_ldi 1 rfl rfl ?_; refine o_loadw tabOk rfl rfl rfl 1 rfl (by first | exact bm_len _ | exact rm_len _ | (simp only [bm_len, rm_len]) | rfl) (by decide) ?_))
                | ((refine z_ldi 2 rfl rfl ?_; refine o_loadw tabOk rfl rfl rfl 2 rfl (by first | exact bm_len _ | exact rm_len _ | (simp only [bm_len, rm_len]) | rfl) (by decide) ?_))
                | ((refine z_ldi 3 rfl rfl ?_; refine o_loadw tabOk rfl rfl rfl 3 rfl (by first | exact bm_len _ | exact rm_len _ | (simp only [bm_len, rm_len]) | rfl) (by decide) ?_))
                | ((refine z_ldi 4 rfl rfl ?_; refine o_loadw tabOk rfl rfl rfl 4 rfl (by first | exact bm_len _ | exact rm_len _ | (simp only [bm_len, rm_len]) | rfl) (by decide) ?_))
                | ((refine z_ldi 5 rfl rfl ?_; refine o_loadw tabOk rfl rfl rfl 5 rfl (by first | exact bm_len _ | exact rm_len _ | (simp only [bm_len, rm_len]) | rfl) (by decide) ?_))
                | ((refine z_ldi 6 rfl rfl ?_; refine o_loadw tabOk rfl rfl rfl 6 rfl (by first | exact bm_len _ | exact rm_len _ | (simp only [bm_len, rm_len]) | rfl) (by decide) ?_))))
        | (refine z_isstore ?_; first
            | (refine z_stw rfl ?_; first
                | ((refine z_sti 0 rfl rfl ?_; refine o_storeb0 rfl tabOk rfl rfl rfl (by first | exact bm_len _ | exact rm_len _ | (simp only [bm_len, rm_len]) | rfl) (by first | exact bm_one _ | exact rm_one _ | rfl) (by first | exact bm_len _ | exact rm_len _ | (simp only [bm_len, rm_len]) | rfl) ?_))
                | ((refine z_sti 1 rfl rfl ?_; refine o_storeb1 rfl tabOk rfl rfl rfl (by first | exact bm_len _ | exact rm_len _ | (simp only [bm_len, rm_len]) | rfl) (by first | exact bm_one _ | exact rm_one _ | rfl) (by first | exact bm_len _ | exact rm_len _ | (simp only [bm_len, rm_len]) | rfl) ?_))
                | ((refine z_sti 2 rfl rfl ?_; refine o_storeb2 rfl tabOk rfl rfl rfl (by first | exact bm_len _ | exact rm_len _ | (simp only [bm_len, rm_len]) | rfl) (by first | exact bm_one _ | exact rm_one _ | rfl) (by first | exact bm_len _ | exact rm_len _ | (simp only [bm_len, rm_len]) | rfl) ?_))
                | ((refine z_sti 3 rfl rfl ?_; refine o_storeb3 rfl tabOk rfl rfl rfl (by first | exact bm_len _ | exact rm_len _ | (simp only [bm_len, rm_len]) | rfl) (by first | exact bm_one _ | exact rm_one _ | rfl) (by first | exact bm_len _ | exact rm_len _ | (simp only [bm_len, rm_len]) | rfl) ?_))
                | ((refine z_sti 4 rfl rfl ?_; refine o_storeb4 rfl tabOk rfl rfl rfl (by first | exact bm_len _ | exact rm_len _ | (simp only [bm_len, rm_len]) | rfl) (by first | exact bm_one _ | exact rm_one _ | rfl) (by first | exact bm_len _ | exact rm_len _ | (simp only [bm_len, rm_len]) | rfl) ?_))
                | ((refine z_sti 5 rfl rfl ?_; refine o_storeb5 rfl tabOk rfl rfl rfl (by first | exact bm_len _ | exact rm_len _ | (simp only [bm_len, rm_len]) | rfl) (by first | exact bm_one _ | exact rm_one _ | rfl) (by first | exact bm_len _ | exact rm_len _ | (simp only [bm_len, rm_len]) | rfl) ?_))
                | ((refine z_sti 6 rfl rfl ?_; refine o_storeb6 rfl tabOk rfl rfl rfl (by first | exact bm_len _ | exact rm_len _ | (simp only [bm_len, rm_len]) | rfl) (by first | exact bm_one _ | exact rm_one _ | rfl) (by first | exact bm_len _ | exact rm_len _ | (simp only [bm_len, rm_len]) | rfl) ?_)))
            | (refine z_st1 rfl rfl ?_; first
                | refine o_store rfl tabOk rfl rfl rfl rfl rfl (by first | exact bm_at _ (by omega) | exact rm_at _ (by omega) | rfl) (by first | exact bm_set _ _ _ | exact rm_set _ _ _ | rfl) ?_
                | ((refine z_sti 1 rfl rfl ?_; refine o_store1 rfl tabOk rfl rfl rfl rfl rfl (by first | exact bm_at _ (by omega) | exact rm_at _ (by omega) | rfl) (by first | exact bm_set _ _ _ | exact rm_set _ _ _ | rfl) ?_))
                | ((refine z_sti 2 rfl rfl ?_; refine o_store2 rfl tabOk rfl rfl rfl rfl rfl (by first | exact bm_at _ (by omega) | exact rm_at _ (by omega) | rfl) (by first | exact bm_set _ _ _ | exact rm_set _ _ _ | rfl) ?_))
                | ((refine z_sti 3 rfl rfl ?_; refine o_store3 rfl tabOk rfl rfl rfl rfl rfl (by first | exact bm_at _ (by omega) | exact rm_at _ (by omega) | rfl) (by first | exact bm_set _ _ _ | exact rm_set _ _ _ | rfl) ?_))
                | ((refine z_sti 4 rfl rfl ?_; refine o_store4 rfl tabOk rfl rfl rfl rfl rfl (by first | exact bm_at _ (by omega) | exact rm_at _ (by omega) | rfl) (by first | exact bm_set _ _ _ | exact rm_set _ _ _ | rfl) ?_))
                | ((refine z_sti 5 rfl rfl ?_; refine o_store5 rfl tabOk rfl rfl rfl rfl rfl (by first | exact bm_at _ (by omega) | exact rm_at _ (by omega) | rfl) (by first | exact bm_set _ _ _ | exact rm_set _ _ _ | rfl) ?_))
                | ((refine z_sti 6 rfl rfl ?_; refine o_store6 rfl tabOk rfl rfl rfl rfl rfl (by first | exact bm_at _ (by omega) | exact rm_at _ (by omega) | rfl) (by first | exact bm_set _ _ _ | exact rm_set _ _ _ | rfl) ?_))))
        | (refine z_isfield ?_; first
            | refine o_fv tabOk rfl rfl rfl rfl rfl (by first | exact bm_at _ (by omega) | exact rm_at _ (by omega) | rfl) (by decide) ?_
            | refine o_fvw tabOk rfl rfl rfl rfl rfl (by first | exact bm_len _ | exact rm_len _ | (simp only [bm_len, rm_len]) | rfl) (by decide) ?_)
        | (refine z_isindex ?_; first
            | refine o_ixv tabOk rfl rfl rfl rfl rfl (by omega) (by omega) (by first | exact bm_at _ (by omega) | exact rm_at _ (by omega) | rfl) (by decide) ?_)
        | (refine z_ismakes ?_; first
            | refine o_make1 rfl tabOk zeroOk rfl rfl rfl rfl rfl (by decide) fun g => ?_)
        | (refine z_iscall ?_; first
            | ((refine z_iscallf 44 ?_; refine o_fn rfl Try.func44 rfl rfl rfl (in_fn _) (by decide) ?_))
            | ((refine z_iscallf 16 ?_; refine o_fn rfl Try.func16 rfl rfl rfl (has_fn _ (by assumption) _) (by decide) ?_))
            | ((refine z_iscallf 17 ?_; refine o_fn rfl Try.func17 rfl rfl rfl (take_fn _ (by assumption) _) (by decide) ?_))
            | ((refine z_iscallf 25 ?_; refine o_fn rfl Try.func25 rfl rfl rfl (free_fn _ (by assumption) _) (by decide) ?_))
            | ((refine z_iscallf 12 ?_; refine o_fn rfl Try.func12 rfl rfl rfl (of_fn _) (by decide) ?_))
            | ((refine z_iscallf 24 ?_; refine o_fn rfl Try.func24 rfl rfl rfl (block_fn _) (by decide) ?_)))
        | (refine z_ispick ?_; first
            | (refine o_pick1 rfl (by first | with_reducible rfl | ((with_reducible refine decide_eq_true ?_); first | with_reducible rfl | with_reducible assumption | omega) | (simp only [Bool.not_eq_true', decide_eq_false_iff_not]; omega) | (with_reducible assumption) | (rw [decide_eq_false] <;> (first | omega | with_reducible rfl)) | (rw [decide_eq_true] <;> (first | omega | with_reducible rfl)) | (simp; done) | (simp; omega)) rfl (by decide) ?_)
            | (refine o_pick0 rfl (by first | with_reducible rfl | ((with_reducible refine decide_eq_false ?_); first | with_reducible assumption | omega) | (simp only [Bool.not_eq_false', decide_eq_true_eq]; omega) | (with_reducible assumption) | (rw [decide_eq_false] <;> (first | omega | with_reducible rfl)) | (rw [decide_eq_true] <;> (first | omega | with_reducible rfl)) | (simp; done) | (simp; omega)) rfl (by decide) ?_))
        | (refine z_isix ?_; first
            | refine o_index0 tabOk rfl rfl rfl rfl (by omega) (by omega) (by decide) ?_
            | refine o_index1 tabOk rfl rfl rfl rfl (by omega) (by omega) (by decide) ?_
            | refine o_indexsk tabOk rfl rfl rfl rfl (by omega) (by omega) (by decide) ?_
            | refine o_indexs1 tabOk (by first | assumption) rfl rfl rfl rfl (by omega) (by omega) (by decide) ?_)
        | (refine z_isslice ?_; first
            | refine o_slice tabOk rfl rfl rfl rfl rfl (by omega) (by omega) (by omega) (by decide) ?_
            | refine o_slicel tabOk rfl rfl rfl rfl (by omega) (by omega) (by omega) (by decide) ?_
            | refine o_sliceh tabOk rfl rfl rfl rfl (by omega) (by omega) (by decide) ?_
            | refine o_slp tabOk rfl rfl rfl rfl rfl (by omega) (by omega) (by omega) (by omega) (by decide) ?_
            | refine o_slpl tabOk rfl rfl rfl rfl (by omega) (by omega) (by decide) ?_
            | refine o_slp0 tabOk rfl rfl rfl rfl (by decide) ?_)
        | (refine z_isbi ?_; first
            | refine o_len tabOk rfl rfl (by decide) ?_
            | refine o_min rfl rfl (by decide) ?_
            | refine o_max rfl rfl (by decide) ?_
            | refine o_append rfl tabOk zeroOk rfl rfl rfl rfl rfl rfl (by first | assumption | exact Rds.cons _ (by assumption) | exact Rds.cons _ (Rds.cons _ (by assumption)) | exact own_rds 0 rfl | exact own_rds 1 rfl | exact own_rds 2 rfl) (by first | rfl | simp) (by first | rfl | simp) (by omega) (by omega) (by decide) fun A' c' => ?_
            | (refine z_front rfl 1 rfl ?_; refine o_append rfl tabOk zeroOk rfl rfl rfl rfl rfl rfl (by first | assumption | exact Rds.cons _ (by assumption) | exact Rds.cons _ (Rds.cons _ (by assumption)) | exact own_rds 0 rfl | exact own_rds 1 rfl | exact own_rds 2 rfl) (by first | rfl | simp) (by first | rfl | simp) (by omega) (by omega) (by decide) fun A' c' => ?_)
            | (refine z_front rfl 2 rfl ?_; refine o_append rfl tabOk zeroOk rfl rfl rfl rfl rfl rfl (by first | assumption | exact Rds.cons _ (by assumption) | exact Rds.cons _ (Rds.cons _ (by assumption)) | exact own_rds 0 rfl | exact own_rds 1 rfl | exact own_rds 2 rfl) (by first | rfl | simp) (by first | rfl | simp) (by omega) (by omega) (by decide) fun A' c' => ?_)
            | (refine z_front rfl 3 rfl ?_; refine o_append rfl tabOk zeroOk rfl rfl rfl rfl rfl rfl (by first | assumption | exact Rds.cons _ (by assumption) | exact Rds.cons _ (Rds.cons _ (by assumption)) | exact own_rds 0 rfl | exact own_rds 1 rfl | exact own_rds 2 rfl) (by first | rfl | simp) (by first | rfl | simp) (by omega) (by omega) (by decide) fun A' c' => ?_)
            | (refine z_front rfl 4 rfl ?_; refine o_append rfl tabOk zeroOk rfl rfl rfl rfl rfl rfl (by first | assumption | exact Rds.cons _ (by assumption) | exact Rds.cons _ (Rds.cons _ (by assumption)) | exact own_rds 0 rfl | exact own_rds 1 rfl | exact own_rds 2 rfl) (by first | rfl | simp) (by first | rfl | simp) (by omega) (by omega) (by decide) fun A' c' => ?_)
            | (refine z_front rfl 5 rfl ?_; refine o_append rfl tabOk zeroOk rfl rfl rfl rfl rfl rfl (by first | assumption | exact Rds.cons _ (by assumption) | exact Rds.cons _ (Rds.cons _ (by assumption)) | exact own_rds 0 rfl | exact own_rds 1 rfl | exact own_rds 2 rfl) (by first | rfl | simp) (by first | rfl | simp) (by omega) (by omega) (by decide) fun A' c' => ?_))
        | refine o_move rfl (by decide) ?_
        | refine o_assign rfl (by decide) ?_
        | refine o_nil rfl (by decide) ?_
        | refine o_extract rfl rfl (by decide) ?_
        | refine o_not rfl (by decide) ?_
        | refine o_field0 tabOk rfl rfl rfl rfl rfl (by decide) ?_
        | refine o_field tabOk rfl rfl rfl rfl rfl (by decide) ?_
        | refine o_conv tabOk rfl rfl rfl (by decide) ?_))
theorem hasB_nat (r : Nat → Int) {i : Nat} (h : i < 512) : hasB r i = tb r i := by unfold hasB; simp; omega
/-- What First tells. -/
def firstV (r : Nat → Int) (f t : Int) : Option Nat := ff (tb r) (max f 0).toNat ((min t 512).toNat - (max f 0).toNat)
def foundV : Option Nat → Value
  | some k => .tuple #[.int .i64 k, .bool true]
  | none => .tuple #[.int .i64 0, .bool false]
theorem ff_go {x : Nat → Bool} {i n : Nat} (h : 0 < n) (hx : x i = true) : ff x i n = ff x (i + 1) (n - 1) := by
  obtain ⟨m, rfl⟩ : ∃ m, n = m + 1 := ⟨n - 1, by omega⟩
  simp [ff, hx]
theorem ff_hit {x : Nat → Bool} {i n : Nat} (h : 0 < n) (hx : x i = false) : ff x i n = some i := by
  obtain ⟨m, rfl⟩ : ∃ m, n = m + 1 := ⟨n - 1, by omega⟩
  simp [ff, hx]
theorem first_fn (r : Nat → Int) (hr : By r) (f t : Int) : Pf Try.prog 15 [.agg (bm r).toArray, .int .i64 f, .int .i64 t] (foundV (firstV r f t)) := by
  intro w hw
  refine f_enter Try.func15 rfl Try.ntmps15 rfl hw ?_
  repeat' (first
    | (refine s_is ?_; first
        | (refine s_isagain ?_; first
            | (exact c_again (i + 1) ⟨by omega, hi.2.trans ((ff_go (by omega) (by rw [← hasB_nat r (by omega)]; simpa using hc)).trans (by rw [Nat.sub_sub]))⟩ (by omega) ⟨rfl, rfl, rfl, rfl, trivial⟩ (fun w h => h)))
        | (refine s_isret ?_; first
            | (exact p_r2 rfl (res_t rfl) (res_t rfl) (by rw [hi.2, ff_hit (by omega) (by rw [← hasB_nat r (by omega)]; simpa using hc)]; rfl))
            | (exact p_r2 rfl (res_t rfl) (res_t rfl) (by rw [hi.2, show (min t 512).toNat - i = 0 by omega]; rfl)))
        | (refine s_isw ?_; first
            | (refine s_isloop ?_; first
                | refine c_loop (X := Nat) (fun i => (max f 0).toNat ≤ i ∧ firstV r f t = ff (tb r) i ((min t 512).toNat - i)) (fun i => [(1, .int .i64 f), (2, .int .i64 t), (3, .pointer (some ⟨g, 0, none⟩)), (8, .int .i64 i)]) (fun i => [cells g 26 (bm r)]) (fun i => 512 - i) (max f 0).toNat ⟨Nat.le_refl _, rfl⟩ ⟨rfl, rfl, rfl, sli_eq (by omega), trivial⟩ (fun w h => h) (fun i hi => ?_))
            | refine c_seq ?_
            | refine c_block ?_
            | refine c_region ?_
            | refine c_mixed mixed (by kernel_rfl) ?_
            | refine c_skip ?_
            | refine c_ret ?_
            | refine c_exit ?_
            | (refine s_iscond ?_; first
                | (refine c_true rfl (by first | with_reducible rfl | ((with_reducible refine decide_eq_true ?_); first | with_reducible rfl | with_reducible assumption | omega) | (simp only [Bool.not_eq_true', decide_eq_false_iff_not]; omega) | (with_reducible assumption) | (rw [decide_eq_false] <;> (first | omega | with_reducible rfl)) | (rw [decide_eq_true] <;> (first | omega | with_reducible rfl)) | (simp; done) | (simp; omega)) ?_)
                | (refine c_false rfl (by first | with_reducible rfl | ((with_reducible refine decide_eq_false ?_); first | with_reducible assumption | omega) | (simp only [Bool.not_eq_false', decide_eq_true_eq]; omega) | (with_reducible assumption) | (rw [decide_eq_false] <;> (first | omega | with_reducible rfl)) | (rw [decide_eq_true] <;> (first | omega | with_reducible rfl)) | (simp; done) | (simp; omega)) ?_)
                | refine c_cond rfl (fun hc => ?_) (fun hc => ?_)
                | refine c_condb rfl (fun hc => ?_) (fun hc => ?_)))
        | refine x_then ?_
        | refine x_then_ret ?_
        | refine x_then_exit ?_
        | refine x_block _ ?_
        | refine x_block_ret _ ?_
        | refine x_block_exit _ ?_
        | refine x_block_past (by decide) ?_
        | refine z_tailm ?_)
    | (refine z_isguard ?_; first
        | (refine z_want rfl rfl (by first | with_reducible rfl | ((with_reducible refine decide_eq_true ?_); first | with_reducible rfl | with_reducible assumption | omega) | ((with_reducible refine decide_eq_false ?_); first | with_reducible assumption | omega) | (simp only [Bool.not_eq_true', Bool.not_eq_false', decide_eq_false_iff_not, decide_eq_true_eq]; omega) | (with_reducible assumption) | (rw [decide_eq_false] <;> (first | omega | with_reducible rfl)) | (rw [decide_eq_true] <;> (first | omega | with_reducible rfl)) | (simp; done) | (simp; omega)) ?_)
        | (refine z_skip (by decide) rfl rfl (by first | with_reducible rfl | ((with_reducible refine decide_eq_true ?_); first | with_reducible rfl | with_reducible assumption | omega) | ((with_reducible refine decide_eq_false ?_); first | with_reducible assumption | omega) | (simp only [Bool.not_eq_true', Bool.not_eq_false', decide_eq_false_iff_not, decide_eq_true_eq]; omega) | (with_reducible assumption) | (rw [decide_eq_false] <;> (first | omega | with_reducible rfl)) | (rw [decide_eq_true] <;> (first | omega | with_reducible rfl)) | (simp; done) | (simp; omega)) ?_)
        | refine z_skipu (by decide) rfl rfl ?_
        | refine z_guard1 (by decide) rfl rfl (fun hc => ?_) (fun hc => ?_)
        | refine z_guard0 (by decide) rfl rfl (fun hc => ?_) (fun hc => ?_)
        | refine z_guardb (by decide) rfl rfl (fun hc => ?_) (fun hc => ?_))
    | (refine z_isnil ?_; first
        | refine z_list ?_
        | refine z_mixed ?_
        | refine z_mono0 ?_
        | refine z_mono1 (by decide) fun g => ?_
        | refine z_mono2 (by decide) (by decide) fun g g' => ?_
        | refine z_mixedx ?_
        | refine z_quiet ?_)
    | (refine z_isop ?_; first
        | refine o_boxa rfl rfl (by decide) fun g => ?_
        | refine o_alloca (e := 26) (vs := bm (fun _ => 0)) rfl (by kernel_rfl) (by decide) fun g => ?_
        | refine o_alloca (e := 24) (vs := bm (fun _ => 0)) rfl (by kernel_rfl) (by decide) fun g => ?_
        | refine o_alloca (e := 23) (vs := bm (fun _ => 0)) rfl (by kernel_rfl) (by decide) fun g => ?_
        | refine o_alloca (e := 49) (vs := rm (fun _ => false)) rfl (by kernel_rfl) (by decide) fun g => ?_
        | (refine z_isbin ?_; first
            | (refine z_isb .add ?_; first
                | refine o_add rfl rfl (by omega) (by omega) (by decide) ?_
                | refine o_addw rfl rfl (by decide) ?_)
            | (refine z_isb .sub ?_; first
                | refine o_sub rfl rfl (by omega) (by omega) (by decide) ?_
                | refine o_subw rfl rfl (by decide) ?_)
            | (refine z_isb .mul ?_; first
                | refine o_mul rfl rfl (by omega) (by omega) (by decide) ?_
                | refine o_mulw rfl rfl (by decide) ?_)
            | (refine z_isb .eql ?_; first
                | refine o_eq rfl rfl (by decide) ?_
                | refine o_beq tabOk rfl rfl rfl (by decide) ?_
                | refine o_peq tabOk rfl rfl (by decide) ?_)
            | (refine z_isb .neq ?_; first
                | refine o_ne rfl rfl (by decide) ?_
                | refine o_bne tabOk rfl rfl rfl (by decide) ?_
                | refine o_pne tabOk rfl rfl (by decide) ?_)
            | (refine z_isb .lss ?_; first
                | refine o_lt rfl rfl (by decide) ?_)
            | (refine z_isb .leq ?_; first
                | refine o_le rfl rfl (by decide) ?_)
            | (refine z_isb .gtr ?_; first
                | refine o_gt rfl rfl (by decide) ?_)
            | (refine z_isb .geq ?_; first
                | refine o_ge rfl rfl (by decide) ?_)
            | (refine z_isb .quo ?_; first
                | refine o_quo rfl rfl (by omega) (by omega) (by omega) (by decide) ?_
                | refine o_quo8 rfl rfl (by omega) (by omega) (by omega) (by decide) ?_
                | refine o_quot rfl rfl (by omega) (by decide) ?_)
            | (refine z_isb .rem ?_; first
                | refine o_rem rfl rfl (by omega) (by omega) (by decide) ?_
                | refine o_remk rfl rfl (by omega) (by omega) (by decide) ?_
                | refine o_remt rfl rfl (by omega) (by decide) ?_)
            | (refine z_isb .and ?_; first
                | refine o_and rfl rfl (by decide) ?_)
            | (refine z_isb .or ?_; first
                | refine o_or rfl rfl (by decide) ?_)
            | (refine z_isb .andNot ?_; first
                | refine o_andNot rfl rfl (by decide) ?_)
            | (refine z_isb .shl ?_; first
                | refine o_shl rfl rfl (by omega) (by decide) ?_)
            | (refine z_isb .shr ?_; first
                | refine o_shr rfl rfl (by omega) (by decide) ?_))
        | (refine z_isload ?_; first
            | (refine z_ld1 tabOk rfl rfl ?_; first
                | ((refine z_ldi 0 rfl rfl ?_; refine o_load tabOk rfl rfl rfl 0 rfl (by first | exact bm_at _ (by omega) | exact rm_at _ (by omega) | rfl) (by decide) ?_))
                | ((refine z_ldi 1 rfl rfl ?_; refine o_load tabOk rfl rfl rfl 1 rfl (by first | exact bm_at _ (by omega) | exact rm_at _ (by omega) | rfl) (by decide) ?_))
                | ((refine z_ldi 2 rfl rfl ?_; refine o_load tabOk rfl rfl rfl 2 rfl (by first | exact bm_at _ (by omega) | exact rm_at _ (by omega) | rfl) (by decide) ?_))
                | ((refine z_ldi 3 rfl rfl ?_; refine o_load tabOk rfl rfl rfl 3 rfl (by first | exact bm_at _ (by omega) | exact rm_at _ (by omega) | rfl) (by decide) ?_))
                | ((refine z_ldi 4 rfl rfl ?_; refine o_load tabOk rfl rfl rfl 4 rfl (by first | exact bm_at _ (by omega) | exact rm_at _ (by omega) | rfl) (by decide) ?_))
                | ((refine z_ldi 5 rfl rfl ?_; refine o_load tabOk rfl rfl rfl 5 rfl (by first | exact bm_at _ (by omega) | exact rm_at _ (by omega) | rfl) (by decide) ?_))
                | ((refine z_ldi 6 rfl rfl ?_; refine o_load tabOk rfl rfl rfl 6 rfl (by first | exact bm_at _ (by omega) | exact rm_at _ (by omega) | rfl) (by decide) ?_))
                | refine o_loads tabOk (by first | assumption | exact Rds.cons _ (by assumption) | exact Rds.cons _ (Rds.cons _ (by assumption)) | exact own_rds 0 rfl | exact own_rds 1 rfl | exact own_rds 2 rfl) rfl rfl rfl (by first | exact bm_at _ (by omega) | exact rm_at _ (by omega) | rfl) (by decide) ?_)
            | (refine z_ldw tabOk rfl rfl ?_; first
                | ((refine z_ldi 0 rfl rfl ?_; refine o_loadw tabOk rfl rfl rfl 0 rfl (by first | exact bm_len _ | exact rm_len _ | (simp only [bm_len, rm_len]) | rfl) (by decide) ?_))
                | ((refine z_ldi 1 rfl rfl ?_; refine o_loadw tabOk rfl rfl rfl 1 rfl (by first | exact bm_len _ | exact rm_len _ | (simp only [bm_len, rm_len]) | rfl) (by decide) ?_))
                | ((refine z_ldi 2 rfl rfl ?_; refine o_loadw tabOk rfl rfl rfl 2 rfl (by first | exact bm_len _ | exact rm_len _ | (simp only [bm_len, rm_len]) | rfl) (by decide) ?_))
                | ((refine z_ldi 3 rfl rfl ?_; refine o_loadw tabOk rfl rfl rfl 3 rfl (by first | exact bm_len _ | exact rm_len _ | (simp only [bm_len, rm_len]) | rfl) (by decide) ?_))
                | ((refine z_ldi 4 rfl rfl ?_; refine o_loadw tabOk rfl rfl rfl 4 rfl (by first | exact bm_len _ | exact rm_len _ | (simp only [bm_len, rm_len]) | rfl) (by decide) ?_))
                | ((refine z_ldi 5 rfl rfl ?_; refine o_loadw tabOk rfl rfl rfl 5 rfl (by first | exact bm_len _ | exact rm_len _ | (simp only [bm_len, rm_len]) | rfl) (by decide) ?_))
                | ((refine z_ldi 6 rfl rfl ?_; refine o_loadw tabOk rfl rfl rfl 6 rfl (by first | exact bm_len _ | exact rm_len _ | (simp only [bm_len, rm_len]) | rfl) (by decide) ?_))))
        | (refine z_isstore ?_; first
            | (refine z_stw rfl ?_; first
                | ((refine z_sti 0 rfl rfl ?_; refine o_storeb0 rfl tabOk rfl rfl rfl (by first | exact bm_len _ | exact rm_len _ | (simp only [bm_len, rm_len]) | rfl) (by first | exact bm_one _ | exact rm_one _ | rfl) (by first | exact bm_len _ | exact rm_len _ | (simp only [bm_len, rm_len]) | rfl) ?_))
                | ((refine z_sti 1 rfl rfl ?_; refine o_storeb1 rfl tabOk rfl rfl rfl (by first | exact bm_len _ | exact rm_len _ | (simp only [bm_len, rm_len]) | rfl) (by first | exact bm_one _ | exact rm_one _ | rfl) (by first | exact bm_len _ | exact rm_len _ | (simp only [bm_len, rm_len]) | rfl) ?_))
                | ((refine z_sti 2 rfl rfl ?_; refine o_storeb2 rfl tabOk rfl rfl rfl (by first | exact bm_len _ | exact rm_len _ | (simp only [bm_len, rm_len]) | rfl) (by first | exact bm_one _ | exact rm_one _ | rfl) (by first | exact bm_len _ | exact rm_len _ | (simp only [bm_len, rm_len]) | rfl) ?_))
                | ((refine z_sti 3 rfl rfl ?_; refine o_storeb3 rfl tabOk rfl rfl rfl (by first | exact bm_len _ | exact rm_len _ | (simp only [bm_len, rm_len]) | rfl) (by first | exact bm_one _ | exact rm_one _ | rfl) (by first | exact bm_len _ | exact rm_len _ | (simp only [bm_len, rm_len]) | rfl) ?_))
                | ((refine z_sti 4 rfl rfl ?_; refine o_storeb4 rfl tabOk rfl rfl rfl (by first | exact bm_len _ | exact rm_len _ | (simp only [bm_len, rm_len]) | rfl) (by first | exact bm_one _ | exact rm_one _ | rfl) (by first | exact bm_len _ | exact rm_len _ | (simp only [bm_len, rm_len]) | rfl) ?_))
                | ((refine z_sti 5 rfl rfl ?_; refine o_storeb5 rfl tabOk rfl rfl rfl (by first | exact bm_len _ | exact rm_len _ | (simp only [bm_len, rm_len]) | rfl) (by first | exact bm_one _ | exact rm_one _ | rfl) (by first | exact bm_len _ | exact rm_len _ | (simp only [bm_len, rm_len]) | rfl) ?_))
                | ((refine z_sti 6 rfl rfl ?_; refine o_storeb6 rfl tabOk rfl rfl rfl (by first | exact bm_len _ | exact rm_len _ | (simp only [bm_len, rm_len]) | rfl) (by first | exact bm_one _ | exact rm_one _ | rfl) (by first | exact bm_len _ | exact rm_len _ | (simp only [bm_len, rm_len]) | rfl) ?_)))
            | (refine z_st1 rfl rfl ?_; first
                | refine o_store rfl tabOk rfl rfl rfl rfl rfl (by first | exact bm_at _ (by omega) | exact rm_at _ (by omega) | rfl) (by first | exact bm_set _ _ _ | exact rm_set _ _ _ | rfl) ?_
                | ((refine z_sti 1 rfl rfl ?_; refine o_store1 rfl tabOk rfl rfl rfl rfl rfl (by first | exact bm_at _ (by omega) | exact rm_at _ (by omega) | rfl) (by first | exact bm_set _ _ _ | exact rm_set _ _ _ | rfl) ?_))
                | ((refine z_sti 2 rfl rfl ?_; refine o_store2 rfl tabOk rfl rfl rfl rfl rfl (by first | exact bm_at _ (by omega) | exact rm_at _ (by omega) | rfl) (by first | exact bm_set _ _ _ | exact rm_set _ _ _ | rfl) ?_))
                | ((refine z_sti 3 rfl rfl ?_; refine o_store3 rfl tabOk rfl rfl rfl rfl rfl (by first | exact bm_at _ (by omega) | exact rm_at _ (by omega) | rfl) (by first | exact bm_set _ _ _ | exact rm_set _ _ _ | rfl) ?_))
                | ((refine z_sti 4 rfl rfl ?_; refine o_store4 rfl tabOk rfl rfl rfl rfl rfl (by first | exact bm_at _ (by omega) | exact rm_at _ (by omega) | rfl) (by first | exact bm_set _ _ _ | exact rm_set _ _ _ | rfl) ?_))
                | ((refine z_sti 5 rfl rfl ?_; refine o_store5 rfl tabOk rfl rfl rfl rfl rfl (by first | exact bm_at _ (by omega) | exact rm_at _ (by omega) | rfl) (by first | exact bm_set _ _ _ | exact rm_set _ _ _ | rfl) ?_))
                | ((refine z_sti 6 rfl rfl ?_; refine o_store6 rfl tabOk rfl rfl rfl rfl rfl (by first | exact bm_at _ (by omega) | exact rm_at _ (by omega) | rfl) (by first | exact bm_set _ _ _ | exact rm_set _ _ _ | rfl) ?_))))
        | (refine z_isfield ?_; first
            | refine o_fv tabOk rfl rfl rfl rfl rfl (by first | exact bm_at _ (by omega) | exact rm_at _ (by omega) | rfl) (by decide) ?_
            | refine o_fvw tabOk rfl rfl rfl rfl rfl (by first | exact bm_len _ | exact rm_len _ | (simp only [bm_len, rm_len]) | rfl) (by decide) ?_)
        | (refine z_isindex ?_; first
            | refine o_ixv tabOk rfl rfl rfl rfl rfl (by omega) (by omega) (by first | exact bm_at _ (by omega) | exact rm_at _ (by omega) | rfl) (by decide) ?_)
        | (refine z_ismakes ?_; first
            | refine o_make1 rfl tabOk zeroOk rfl rfl rfl rfl rfl (by decide) fun g => ?_)
        | (refine z_iscall ?_; first
            | ((refine z_iscallf 44 ?_; refine o_fn rfl Try.func44 rfl rfl rfl (in_fn _) (by decide) ?_))
            | ((refine z_iscallf 16 ?_; refine o_fn rfl Try.func16 rfl rfl rfl (has_fn _ (by assumption) _) (by decide) ?_))
            | ((refine z_iscallf 17 ?_; refine o_fn rfl Try.func17 rfl rfl rfl (take_fn _ (by assumption) _) (by decide) ?_))
            | ((refine z_iscallf 25 ?_; refine o_fn rfl Try.func25 rfl rfl rfl (free_fn _ (by assumption) _) (by decide) ?_))
            | ((refine z_iscallf 12 ?_; refine o_fn rfl Try.func12 rfl rfl rfl (of_fn _) (by decide) ?_))
            | ((refine z_iscallf 24 ?_; refine o_fn rfl Try.func24 rfl rfl rfl (block_fn _) (by decide) ?_))
            | ((refine z_iscallf 43 ?_; refine o_fn rfl Try.func43 rfl rfl rfl (ones_fn _ (by assumption) (by assumption)) (by decide) ?_)))
        | (refine z_ispick ?_; first
            | (refine o_pick1 rfl (by first | with_reducible rfl | ((with_reducible refine decide_eq_true ?_); first | with_reducible rfl | with_reducible assumption | omega) | (simp only [Bool.not_eq_true', decide_eq_false_iff_not]; omega) | (with_reducible assumption) | (rw [decide_eq_false] <;> (first | omega | with_reducible rfl)) | (rw [decide_eq_true] <;> (first | omega | with_reducible rfl)) | (simp; done) | (simp; omega)) rfl (by decide) ?_)
            | (refine o_pick0 rfl (by first | with_reducible rfl | ((with_reducible refine decide_eq_false ?_); first | with_reducible assumption | omega) | (simp only [Bool.not_eq_false', decide_eq_true_eq]; omega) | (with_reducible assumption) | (rw [decide_eq_false] <;> (first | omega | with_reducible rfl)) | (rw [decide_eq_true] <;> (first | omega | with_reducible rfl)) | (simp; done) | (simp; omega)) rfl (by decide) ?_))
        | (refine z_isix ?_; first
            | refine o_index0 tabOk rfl rfl rfl rfl (by omega) (by omega) (by decide) ?_
            | refine o_index1 tabOk rfl rfl rfl rfl (by omega) (by omega) (by decide) ?_
            | refine o_indexsk tabOk rfl rfl rfl rfl (by omega) (by omega) (by decide) ?_
            | refine o_indexs1 tabOk (by first | assumption) rfl rfl rfl rfl (by omega) (by omega) (by decide) ?_)
        | (refine z_isslice ?_; first
            | refine o_slice tabOk rfl rfl rfl rfl rfl (by omega) (by omega) (by omega) (by decide) ?_
            | refine o_slicel tabOk rfl rfl rfl rfl (by omega) (by omega) (by omega) (by decide) ?_
            | refine o_sliceh tabOk rfl rfl rfl rfl (by omega) (by omega) (by decide) ?_
            | refine o_slp tabOk rfl rfl rfl rfl rfl (by omega) (by omega) (by omega) (by omega) (by decide) ?_
            | refine o_slpl tabOk rfl rfl rfl rfl (by omega) (by omega) (by decide) ?_
            | refine o_slp0 tabOk rfl rfl rfl rfl (by decide) ?_)
        | (refine z_isbi ?_; first
            | refine o_len tabOk rfl rfl (by decide) ?_
            | refine o_min rfl rfl (by decide) ?_
            | refine o_max rfl rfl (by decide) ?_
            | refine o_append rfl tabOk zeroOk rfl rfl rfl rfl rfl rfl (by first | assumption | exact Rds.cons _ (by assumption) | exact Rds.cons _ (Rds.cons _ (by assumption)) | exact own_rds 0 rfl | exact own_rds 1 rfl | exact own_rds 2 rfl) (by first | rfl | simp) (by first | rfl | simp) (by omega) (by omega) (by decide) fun A' c' => ?_
            | (refine z_front rfl 1 rfl ?_; refine o_append rfl tabOk zeroOk rfl rfl rfl rfl rfl rfl (by first | assumption | exact Rds.cons _ (by assumption) | exact Rds.cons _ (Rds.cons _ (by assumption)) | exact own_rds 0 rfl | exact own_rds 1 rfl | exact own_rds 2 rfl) (by first | rfl | simp) (by first | rfl | simp) (by omega) (by omega) (by decide) fun A' c' => ?_)
            | (refine z_front rfl 2 rfl ?_; refine o_append rfl tabOk zeroOk rfl rfl rfl rfl rfl rfl (by first | assumption | exact Rds.cons _ (by assumption) | exact Rds.cons _ (Rds.cons _ (by assumption)) | exact own_rds 0 rfl | exact own_rds 1 rfl | exact own_rds 2 rfl) (by first | rfl | simp) (by first | rfl | simp) (by omega) (by omega) (by decide) fun A' c' => ?_)
            | (refine z_front rfl 3 rfl ?_; refine o_append rfl tabOk zeroOk rfl rfl rfl rfl rfl rfl (by first | assumption | exact Rds.cons _ (by assumption) | exact Rds.cons _ (Rds.cons _ (by assumption)) | exact own_rds 0 rfl | exact own_rds 1 rfl | exact own_rds 2 rfl) (by first | rfl | simp) (by first | rfl | simp) (by omega) (by omega) (by decide) fun A' c' => ?_)
            | (refine z_front rfl 4 rfl ?_; refine o_append rfl tabOk zeroOk rfl rfl rfl rfl rfl rfl (by first | assumption | exact Rds.cons _ (by assumption) | exact Rds.cons _ (Rds.cons _ (by assumption)) | exact own_rds 0 rfl | exact own_rds 1 rfl | exact own_rds 2 rfl) (by first | rfl | simp) (by first | rfl | simp) (by omega) (by omega) (by decide) fun A' c' => ?_)
            | (refine z_front rfl 5 rfl ?_; refine o_append rfl tabOk zeroOk rfl rfl rfl rfl rfl rfl (by first | assumption | exact Rds.cons _ (by assumption) | exact Rds.cons _ (Rds.cons _ (by assumption)) | exact own_rds 0 rfl | exact own_rds 1 rfl | exact own_rds 2 rfl) (by first | rfl | simp) (by first | rfl | simp) (by omega) (by omega) (by decide) fun A' c' => ?_))
        | refine o_move rfl (by decide) ?_
        | refine o_assign rfl (by decide) ?_
        | refine o_nil rfl (by decide) ?_
        | refine o_extract rfl rfl (by decide) ?_
        | refine o_not rfl (by decide) ?_
        | refine o_field0 tabOk rfl rfl rfl rfl rfl (by decide) ?_
        | refine o_field tabOk rfl rfl rfl rfl rfl (by decide) ?_
        | refine o_conv tabOk rfl rfl rfl (by decide) ?_))
def countV (r : Nat → Int) (f t : Int) : Nat := cn (tb r) (max f 0).toNat ((min t 512).toNat - (max f 0).toNat)
theorem cn_one (r : Nat → Int) {a i : Nat} (h : a ≤ i) : cn (tb r) a (i + 1 - a) = cn (tb r) a (i - a) + (tb r i).toNat := by
  rw [show i + 1 - a = (i - a) + 1 by omega]
  show _ + _ = _
  rw [show a + (i - a) = i by omega]
theorem cn_eight (r : Nat → Int) {a i : Nat} (h : a ≤ i) (h8 : ((i : Nat) : Int) % 8 = 0) : cn (tb r) a (i + 8 - a) = cn (tb r) a (i - a) + pop (r ((i : Int) / 8).toNat).toNat := by
  rw [show i + 8 - a = (i - a) + 8 by omega, cn_add, show a + (i - a) = i by omega, show ((i : Int) / 8).toNat = i / 8 by omega, pop_tb r i (by omega)]
theorem count_fn (r : Nat → Int) (hr : By r) (f t : Int) : Pf Try.prog 14 [.agg (bm r).toArray, .int .i64 f, .int .i64 t] (.int .i64 (countV r f t)) := by
  intro w hw
  refine f_enter Try.func14 rfl Try.ntmps14 rfl hw ?_
  repeat' (first
    | (refine s_is ?_; first
        | (refine s_isagain ?_; first
            | (exact c_again (i + 8) ⟨by omega, by omega⟩ (by omega) ⟨rfl, rfl, sli_eq (by rw [cn_eight r hi.1 (by omega)]; omega), sli_eq (by omega), trivial⟩ (fun w h => h))
            | (exact c_again (i + 1) ⟨by omega, by omega⟩ (by omega) ⟨rfl, rfl, sli_eq (by rw [cn_one r hi.1, ← hasB_nat r (by omega), hc]; simp), sli_eq (by omega), trivial⟩ (fun w h => h)))
        | (refine s_isret ?_; first
            | (exact p_r1 rfl (res_t (sli_eq (by unfold countV; congr 2; omega)))))
        | (refine s_isw ?_; first
            | (refine s_isloop ?_; first
                | ((refine c_loop (X := Nat) (fun i => (max f 0).toNat ≤ i ∧ (i ≤ (min t 512).toNat ∨ i = (max f 0).toNat)) (fun i => [(2, .int .i64 (min t 512)), (3, .pointer (some ⟨g, 0, none⟩)), (7, .int .i64 (cn (tb r) (max f 0).toNat (i - (max f 0).toNat))), (8, .int .i64 i)]) (fun i => [cells g 26 (bm r)]) (fun i => 512 - i) (max f 0).toNat ⟨Nat.le_refl _, .inr rfl⟩ ⟨rfl, rfl, sli_eq (by rw [Nat.sub_self]; rfl), sli_eq (by omega), trivial⟩ (fun w h => h) (fun i hi => ?_); have hcn := cn_le (tb r) (max f 0).toNat (i - (max f 0).toNat); have hpl := pop_le (r ((i : Int) / 8).toNat).toNat)))
            | refine c_seq ?_
            | refine c_block ?_
            | refine c_region ?_
            | refine c_mixed mixed (by kernel_rfl) ?_
            | refine c_skip ?_
            | refine c_ret ?_
            | refine c_exit ?_
            | (refine s_iscond ?_; first
                | (refine c_true rfl (by first | with_reducible rfl | ((with_reducible refine decide_eq_true ?_); first | with_reducible rfl | with_reducible assumption | omega) | (simp only [Bool.not_eq_true', decide_eq_false_iff_not]; omega) | (with_reducible assumption) | (rw [decide_eq_false] <;> (first | omega | with_reducible rfl)) | (rw [decide_eq_true] <;> (first | omega | with_reducible rfl)) | (simp; done) | (simp; omega)) ?_)
                | (refine c_false rfl (by first | with_reducible rfl | ((with_reducible refine decide_eq_false ?_); first | with_reducible assumption | omega) | (simp only [Bool.not_eq_false', decide_eq_true_eq]; omega) | (with_reducible assumption) | (rw [decide_eq_false] <;> (first | omega | with_reducible rfl)) | (rw [decide_eq_true] <;> (first | omega | with_reducible rfl)) | (simp; done) | (simp; omega)) ?_)
                | refine c_cond rfl (fun hc => ?_) (fun hc => ?_)
                | refine c_condb rfl (fun hc => ?_) (fun hc => ?_)))
        | refine x_then ?_
        | refine x_then_ret ?_
        | refine x_then_exit ?_
        | refine x_block _ ?_
        | refine x_block_ret _ ?_
        | refine x_block_exit _ ?_
        | refine x_block_past (by decide) ?_
        | refine z_tailm ?_)
    | (refine z_isguard ?_; first
        | (refine z_want rfl rfl (by first | with_reducible rfl | ((with_reducible refine decide_eq_true ?_); first | with_reducible rfl | with_reducible assumption | omega) | ((with_reducible refine decide_eq_false ?_); first | with_reducible assumption | omega) | (simp only [Bool.not_eq_true', Bool.not_eq_false', decide_eq_false_iff_not, decide_eq_true_eq]; omega) | (with_reducible assumption) | (rw [decide_eq_false] <;> (first | omega | with_reducible rfl)) | (rw [decide_eq_true] <;> (first | omega | with_reducible rfl)) | (simp; done) | (simp; omega)) ?_)
        | (refine z_skip (by decide) rfl rfl (by first | with_reducible rfl | ((with_reducible refine decide_eq_true ?_); first | with_reducible rfl | with_reducible assumption | omega) | ((with_reducible refine decide_eq_false ?_); first | with_reducible assumption | omega) | (simp only [Bool.not_eq_true', Bool.not_eq_false', decide_eq_false_iff_not, decide_eq_true_eq]; omega) | (with_reducible assumption) | (rw [decide_eq_false] <;> (first | omega | with_reducible rfl)) | (rw [decide_eq_true] <;> (first | omega | with_reducible rfl)) | (simp; done) | (simp; omega)) ?_)
        | refine z_skipu (by decide) rfl rfl ?_
        | refine z_guard1 (by decide) rfl rfl (fun hc => ?_) (fun hc => ?_)
        | refine z_guard0 (by decide) rfl rfl (fun hc => ?_) (fun hc => ?_)
        | refine z_guardb (by decide) rfl rfl (fun hc => ?_) (fun hc => ?_))
    | (refine z_isnil ?_; first
        | refine z_list ?_
        | refine z_mixed ?_
        | refine z_mono0 ?_
        | refine z_mono1 (by decide) fun g => ?_
        | refine z_mono2 (by decide) (by decide) fun g g' => ?_
        | refine z_mixedx ?_
        | refine z_quiet ?_)
    | (refine z_isop ?_; first
        | refine o_boxa rfl rfl (by decide) fun g => ?_
        | refine o_alloca (e := 26) (vs := bm (fun _ => 0)) rfl (by kernel_rfl) (by decide) fun g => ?_
        | refine o_alloca (e := 24) (vs := bm (fun _ => 0)) rfl (by kernel_rfl) (by decide) fun g => ?_
        | refine o_alloca (e := 23) (vs := bm (fun _ => 0)) rfl (by kernel_rfl) (by decide) fun g => ?_
        | refine o_alloca (e := 49) (vs := rm (fun _ => false)) rfl (by kernel_rfl) (by decide) fun g => ?_
        | (refine z_isbin ?_; first
            | (refine z_isb .add ?_; first
                | refine o_add rfl rfl (by omega) (by omega) (by decide) ?_
                | refine o_addw rfl rfl (by decide) ?_)
            | (refine z_isb .sub ?_; first
                | refine o_sub rfl rfl (by omega) (by omega) (by decide) ?_
                | refine o_subw rfl rfl (by decide) ?_)
            | (refine z_isb .mul ?_; first
                | refine o_mul rfl rfl (by omega) (by omega) (by decide) ?_
                | refine o_mulw rfl rfl (by decide) ?_)
            | (refine z_isb .eql ?_; first
                | refine o_eq rfl rfl (by decide) ?_
                | refine o_beq tabOk rfl rfl rfl (by decide) ?_
                | refine o_peq tabOk rfl rfl (by decide) ?_)
            | (refine z_isb .neq ?_; first
                | refine o_ne rfl rfl (by decide) ?_
                | refine o_bne tabOk rfl rfl rfl (by decide) ?_
                | refine o_pne tabOk rfl rfl (by decide) ?_)
            | (refine z_isb .lss ?_; first
                | refine o_lt rfl rfl (by decide) ?_)
            | (refine z_isb .leq ?_; first
                | refine o_le rfl rfl (by decide) ?_)
            | (refine z_isb .gtr ?_; first
                | refine o_gt rfl rfl (by decide) ?_)
            | (refine z_isb .geq ?_; first
                | refine o_ge rfl rfl (by decide) ?_)
            | (refine z_isb .quo ?_; first
                | refine o_quo rfl rfl (by omega) (by omega) (by omega) (by decide) ?_
                | refine o_quo8 rfl rfl (by omega) (by omega) (by omega) (by decide) ?_
                | refine o_quot rfl rfl (by omega) (by decide) ?_)
            | (refine z_isb .rem ?_; first
                | refine o_rem rfl rfl (by omega) (by omega) (by decide) ?_
                | refine o_remk rfl rfl (by omega) (by omega) (by decide) ?_
                | refine o_remt rfl rfl (by omega) (by decide) ?_)
            | (refine z_isb .and ?_; first
                | refine o_and rfl rfl (by decide) ?_)
            | (refine z_isb .or ?_; first
                | refine o_or rfl rfl (by decide) ?_)
            | (refine z_isb .andNot ?_; first
                | refine o_andNot rfl rfl (by decide) ?_)
            | (refine z_isb .shl ?_; first
                | refine o_shl rfl rfl (by omega) (by decide) ?_)
            | (refine z_isb .shr ?_; first
                | refine o_shr rfl rfl (by omega) (by decide) ?_))
        | (refine z_isload ?_; first
            | (refine z_ld1 tabOk rfl rfl ?_; first
                | ((refine z_ldi 0 rfl rfl ?_; refine o_load tabOk rfl rfl rfl 0 rfl (by first | exact bm_at _ (by omega) | exact rm_at _ (by omega) | rfl) (by decide) ?_))
                | ((refine z_ldi 1 rfl rfl ?_; refine o_load tabOk rfl rfl rfl 1 rfl (by first | exact bm_at _ (by omega) | exact rm_at _ (by omega) | rfl) (by decide) ?_))
                | ((refine z_ldi 2 rfl rfl ?_; refine o_load tabOk rfl rfl rfl 2 rfl (by first | exact bm_at _ (by omega) | exact rm_at _ (by omega) | rfl) (by decide) ?_))
                | ((refine z_ldi 3 rfl rfl ?_; refine o_load tabOk rfl rfl rfl 3 rfl (by first | exact bm_at _ (by omega) | exact rm_at _ (by omega) | rfl) (by decide) ?_))
                | ((refine z_ldi 4 rfl rfl ?_; refine o_load tabOk rfl rfl rfl 4 rfl (by first | exact bm_at _ (by omega) | exact rm_at _ (by omega) | rfl) (by decide) ?_))
                | ((refine z_ldi 5 rfl rfl ?_; refine o_load tabOk rfl rfl rfl 5 rfl (by first | exact bm_at _ (by omega) | exact rm_at _ (by omega) | rfl) (by decide) ?_))
                | ((refine z_ldi 6 rfl rfl ?_; refine o_load tabOk rfl rfl rfl 6 rfl (by first | exact bm_at _ (by omega) | exact rm_at _ (by omega) | rfl) (by decide) ?_))
                | refine o_loads tabOk (by first | assumption | exact Rds.cons _ (by assumption) | exact Rds.cons _ (Rds.cons _ (by assumption)) | exact own_rds 0 rfl | exact own_rds 1 rfl | exact own_rds 2 rfl) rfl rfl rfl (by first | exact bm_at _ (by omega) | exact rm_at _ (by omega) | rfl) (by decide) ?_)
            | (refine z_ldw tabOk rfl rfl ?_; first
                | ((refine z_ldi 0 rfl rfl ?_; refine o_loadw tabOk rfl rfl rfl 0 rfl (by first | exact bm_len _ | exact rm_len _ | (simp only [bm_len, rm_len]) | rfl) (by decide) ?_))
                | ((refine z_ldi 1 rfl rfl ?_; refine o_loadw tabOk rfl rfl rfl 1 rfl (by first | exact bm_len _ | exact rm_len _ | (simp only [bm_len, rm_len]) | rfl) (by decide) ?_))
                | ((refine z_ldi 2 rfl rfl ?_; refine o_loadw tabOk rfl rfl rfl 2 rfl (by first | exact bm_len _ | exact rm_len _ | (simp only [bm_len, rm_len]) | rfl) (by decide) ?_))
                | ((refine z_ldi 3 rfl rfl ?_; refine o_loadw tabOk rfl rfl rfl 3 rfl (by first | exact bm_len _ | exact rm_len _ | (simp only [bm_len, rm_len]) | rfl) (by decide) ?_))
                | ((refine z_ldi 4 rfl rfl ?_; refine o_loadw tabOk rfl rfl rfl 4 rfl (by first | exact bm_len _ | exact rm_len _ | (simp only [bm_len, rm_len]) | rfl) (by decide) ?_))
                | ((refine z_ldi 5 rfl rfl ?_; refine o_loadw tabOk rfl rfl rfl 5 rfl (by first | exact bm_len _ | exact rm_len _ | (simp only [bm_len, rm_len]) | rfl) (by decide) ?_))
                | ((refine z_ldi 6 rfl rfl ?_; refine o_loadw tabOk rfl rfl rfl 6 rfl (by first | exact bm_len _ | exact rm_len _ | (simp only [bm_len, rm_len]) | rfl) (by decide) ?_))))
        | (refine z_isstore ?_; first
            | (refine z_stw rfl ?_; first
                | ((refine z_sti 0 rfl rfl ?_; refine o_storeb0 rfl tabOk rfl rfl rfl (by first | exact bm_len _ | exact rm_len _ | (simp only [bm_len, rm_len]) | rfl) (by first | exact bm_one _ | exact rm_one _ | rfl) (by first | exact bm_len _ | exact rm_len _ | (simp only [bm_len, rm_len]) | rfl) ?_))
                | ((refine z_sti 1 rfl rfl ?_; refine o_storeb1 rfl tabOk rfl rfl rfl (by first | exact bm_len _ | exact rm_len _ | (simp only [bm_len, rm_len]) | rfl) (by first | exact bm_one _ | exact rm_one _ | rfl) (by first | exact bm_len _ | exact rm_len _ | (simp only [bm_len, rm_len]) | rfl) ?_))
                | ((refine z_sti 2 rfl rfl ?_; refine o_storeb2 rfl tabOk rfl rfl rfl (by first | exact bm_len _ | exact rm_len _ | (simp only [bm_len, rm_len]) | rfl) (by first | exact bm_one _ | exact rm_one _ | rfl) (by first | exact bm_len _ | exact rm_len _ | (simp only [bm_len, rm_len]) | rfl) ?_))
                | ((refine z_sti 3 rfl rfl ?_; refine o_storeb3 rfl tabOk rfl rfl rfl (by first | exact bm_len _ | exact rm_len _ | (simp only [bm_len, rm_len]) | rfl) (by first | exact bm_one _ | exact rm_one _ | rfl) (by first | exact bm_len _ | exact rm_len _ | (simp only [bm_len, rm_len]) | rfl) ?_))
                | ((refine z_sti 4 rfl rfl ?_; refine o_storeb4 rfl tabOk rfl rfl rfl (by first | exact bm_len _ | exact rm_len _ | (simp only [bm_len, rm_len]) | rfl) (by first | exact bm_one _ | exact rm_one _ | rfl) (by first | exact bm_len _ | exact rm_len _ | (simp only [bm_len, rm_len]) | rfl) ?_))
                | ((refine z_sti 5 rfl rfl ?_; refine o_storeb5 rfl tabOk rfl rfl rfl (by first | exact bm_len _ | exact rm_len _ | (simp only [bm_len, rm_len]) | rfl) (by first | exact bm_one _ | exact rm_one _ | rfl) (by first | exact bm_len _ | exact rm_len _ | (simp only [bm_len, rm_len]) | rfl) ?_))
                | ((refine z_sti 6 rfl rfl ?_; refine o_storeb6 rfl tabOk rfl rfl rfl (by first | exact bm_len _ | exact rm_len _ | (simp only [bm_len, rm_len]) | rfl) (by first | exact bm_one _ | exact rm_one _ | rfl) (by first | exact bm_len _ | exact rm_len _ | (simp only [bm_len, rm_len]) | rfl) ?_)))
            | (refine z_st1 rfl rfl ?_; first
                | refine o_store rfl tabOk rfl rfl rfl rfl rfl (by first | exact bm_at _ (by omega) | exact rm_at _ (by omega) | rfl) (by first | exact bm_set _ _ _ | exact rm_set _ _ _ | rfl) ?_
                | ((refine z_sti 1 rfl rfl ?_; refine o_store1 rfl tabOk rfl rfl rfl rfl rfl (by first | exact bm_at _ (by omega) | exact rm_at _ (by omega) | rfl) (by first | exact bm_set _ _ _ | exact rm_set _ _ _ | rfl) ?_))
                | ((refine z_sti 2 rfl rfl ?_; refine o_store2 rfl tabOk rfl rfl rfl rfl rfl (by first | exact bm_at _ (by omega) | exact rm_at _ (by omega) | rfl) (by first | exact bm_set _ _ _ | exact rm_set _ _ _ | rfl) ?_))
                | ((refine z_sti 3 rfl rfl ?_; refine o_store3 rfl tabOk rfl rfl rfl rfl rfl (by first | exact bm_at _ (by omega) | exact rm_at _ (by omega) | rfl) (by first | exact bm_set _ _ _ | exact rm_set _ _ _ | rfl) ?_))
                | ((refine z_sti 4 rfl rfl ?_; refine o_store4 rfl tabOk rfl rfl rfl rfl rfl (by first | exact bm_at _ (by omega) | exact rm_at _ (by omega) | rfl) (by first | exact bm_set _ _ _ | exact rm_set _ _ _ | rfl) ?_))
                | ((refine z_sti 5 rfl rfl ?_; refine o_store5 rfl tabOk rfl rfl rfl rfl rfl (by first | exact bm_at _ (by omega) | exact rm_at _ (by omega) | rfl) (by first | exact bm_set _ _ _ | exact rm_set _ _ _ | rfl) ?_))
                | ((refine z_sti 6 rfl rfl ?_; refine o_store6 rfl tabOk rfl rfl rfl rfl rfl (by first | exact bm_at _ (by omega) | exact rm_at _ (by omega) | rfl) (by first | exact bm_set _ _ _ | exact rm_set _ _ _ | rfl) ?_))))
        | (refine z_isfield ?_; first
            | refine o_fv tabOk rfl rfl rfl rfl rfl (by first | exact bm_at _ (by omega) | exact rm_at _ (by omega) | rfl) (by decide) ?_
            | refine o_fvw tabOk rfl rfl rfl rfl rfl (by first | exact bm_len _ | exact rm_len _ | (simp only [bm_len, rm_len]) | rfl) (by decide) ?_)
        | (refine z_isindex ?_; first
            | refine o_ixv tabOk rfl rfl rfl rfl rfl (by omega) (by omega) (by first | exact bm_at _ (by omega) | exact rm_at _ (by omega) | rfl) (by decide) ?_)
        | (refine z_ismakes ?_; first
            | refine o_make1 rfl tabOk zeroOk rfl rfl rfl rfl rfl (by decide) fun g => ?_)
        | (refine z_iscall ?_; first
            | ((refine z_iscallf 44 ?_; refine o_fn rfl Try.func44 rfl rfl rfl (in_fn _) (by decide) ?_))
            | ((refine z_iscallf 16 ?_; refine o_fn rfl Try.func16 rfl rfl rfl (has_fn _ (by assumption) _) (by decide) ?_))
            | ((refine z_iscallf 17 ?_; refine o_fn rfl Try.func17 rfl rfl rfl (take_fn _ (by assumption) _) (by decide) ?_))
            | ((refine z_iscallf 25 ?_; refine o_fn rfl Try.func25 rfl rfl rfl (free_fn _ (by assumption) _) (by decide) ?_))
            | ((refine z_iscallf 12 ?_; refine o_fn rfl Try.func12 rfl rfl rfl (of_fn _) (by decide) ?_))
            | ((refine z_iscallf 24 ?_; refine o_fn rfl Try.func24 rfl rfl rfl (block_fn _) (by decide) ?_))
            | ((refine z_iscallf 43 ?_; refine o_fn rfl Try.func43 rfl rfl rfl (ones_fn _ (by assumption) (by assumption)) (by decide) ?_))
            | ((refine z_iscallf 43 ?_; refine o_fn rfl Try.func43 rfl rfl rfl (ones_fn _ (hr _).1 (hr _).2) (by decide) ?_)))
        | (refine z_ispick ?_; first
            | (refine o_pick1 rfl (by first | with_reducible rfl | ((with_reducible refine decide_eq_true ?_); first | with_reducible rfl | with_reducible assumption | omega) | (simp only [Bool.not_eq_true', decide_eq_false_iff_not]; omega) | (with_reducible assumption) | (rw [decide_eq_false] <;> (first | omega | with_reducible rfl)) | (rw [decide_eq_true] <;> (first | omega | with_reducible rfl)) | (simp; done) | (simp; omega)) rfl (by decide) ?_)
            | (refine o_pick0 rfl (by first | with_reducible rfl | ((with_reducible refine decide_eq_false ?_); first | with_reducible assumption | omega) | (simp only [Bool.not_eq_false', decide_eq_true_eq]; omega) | (with_reducible assumption) | (rw [decide_eq_false] <;> (first | omega | with_reducible rfl)) | (rw [decide_eq_true] <;> (first | omega | with_reducible rfl)) | (simp; done) | (simp; omega)) rfl (by decide) ?_))
        | (refine z_isix ?_; first
            | refine o_index0 tabOk rfl rfl rfl rfl (by omega) (by omega) (by decide) ?_
            | refine o_index1 tabOk rfl rfl rfl rfl (by omega) (by omega) (by decide) ?_
            | refine o_indexsk tabOk rfl rfl rfl rfl (by omega) (by omega) (by decide) ?_
            | refine o_indexs1 tabOk (by first | assumption) rfl rfl rfl rfl (by omega) (by omega) (by decide) ?_)
        | (refine z_isslice ?_; first
            | refine o_slice tabOk rfl rfl rfl rfl rfl (by omega) (by omega) (by omega) (by decide) ?_
            | refine o_slicel tabOk rfl rfl rfl rfl (by omega) (by omega) (by omega) (by decide) ?_
            | refine o_sliceh tabOk rfl rfl rfl rfl (by omega) (by omega) (by decide) ?_
            | refine o_slp tabOk rfl rfl rfl rfl rfl (by omega) (by omega) (by omega) (by omega) (by decide) ?_
            | refine o_slpl tabOk rfl rfl rfl rfl (by omega) (by omega) (by decide) ?_
            | refine o_slp0 tabOk rfl rfl rfl rfl (by decide) ?_)
        | (refine z_isbi ?_; first
            | refine o_len tabOk rfl rfl (by decide) ?_
            | refine o_min rfl rfl (by decide) ?_
            | refine o_max rfl rfl (by decide) ?_
            | refine o_append rfl tabOk zeroOk rfl rfl rfl rfl rfl rfl (by first | assumption | exact Rds.cons _ (by assumption) | exact Rds.cons _ (Rds.cons _ (by assumption)) | exact own_rds 0 rfl | exact own_rds 1 rfl | exact own_rds 2 rfl) (by first | rfl | simp) (by first | rfl | simp) (by omega) (by omega) (by decide) fun A' c' => ?_
            | (refine z_front rfl 1 rfl ?_; refine o_append rfl tabOk zeroOk rfl rfl rfl rfl rfl rfl (by first | assumption | exact Rds.cons _ (by assumption) | exact Rds.cons _ (Rds.cons _ (by assumption)) | exact own_rds 0 rfl | exact own_rds 1 rfl | exact own_rds 2 rfl) (by first | rfl | simp) (by first | rfl | simp) (by omega) (by omega) (by decide) fun A' c' => ?_)
            | (refine z_front rfl 2 rfl ?_; refine o_append rfl tabOk zeroOk rfl rfl rfl rfl rfl rfl (by first | assumption | exact Rds.cons _ (by assumption) | exact Rds.cons _ (Rds.cons _ (by assumption)) | exact own_rds 0 rfl | exact own_rds 1 rfl | exact own_rds 2 rfl) (by first | rfl | simp) (by first | rfl | simp) (by omega) (by omega) (by decide) fun A' c' => ?_)
            | (refine z_front rfl 3 rfl ?_; refine o_append rfl tabOk zeroOk rfl rfl rfl rfl rfl rfl (by first | assumption | exact Rds.cons _ (by assumption) | exact Rds.cons _ (Rds.cons _ (by assumption)) | exact own_rds 0 rfl | exact own_rds 1 rfl | exact own_rds 2 rfl) (by first | rfl | simp) (by first | rfl | simp) (by omega) (by omega) (by decide) fun A' c' => ?_)
            | (refine z_front rfl 4 rfl ?_; refine o_append rfl tabOk zeroOk rfl rfl rfl rfl rfl rfl (by first | assumption | exact Rds.cons _ (by assumption) | exact Rds.cons _ (Rds.cons _ (by assumption)) | exact own_rds 0 rfl | exact own_rds 1 rfl | exact own_rds 2 rfl) (by first | rfl | simp) (by first | rfl | simp) (by omega) (by omega) (by decide) fun A' c' => ?_)
            | (refine z_front rfl 5 rfl ?_; refine o_append rfl tabOk zeroOk rfl rfl rfl rfl rfl rfl (by first | assumption | exact Rds.cons _ (by assumption) | exact Rds.cons _ (Rds.cons _ (by assumption)) | exact own_rds 0 rfl | exact own_rds 1 rfl | exact own_rds 2 rfl) (by first | rfl | simp) (by first | rfl | simp) (by omega) (by omega) (by decide) fun A' c' => ?_))
        | refine o_move rfl (by decide) ?_
        | refine o_assign rfl (by decide) ?_
        | refine o_nil rfl (by decide) ?_
        | refine o_extract rfl rfl (by decide) ?_
        | refine o_not rfl (by decide) ?_
        | refine o_field0 tabOk rfl rfl rfl rfl rfl (by decide) ?_
        | refine o_field tabOk rfl rfl rfl rfl rfl (by decide) ?_
        | refine o_conv tabOk rfl rfl rfl (by decide) ?_))
end Go.Proofs.Ytjejnlfbonpfaaa
